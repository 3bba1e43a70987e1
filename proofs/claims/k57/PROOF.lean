import PyProof.Rows.All
import Wide.All
import OpenK.AllK
import Wide.FinOn
import HandS.ForMost
import HandS.Style
import HandS.Star
import HandS.Deep
import HandS.SortOrd
import HandS.TupLe
import HandS.TupAny
import HandS.TupLen
import HandS.NoneIn
import HandS.Conv
import HandS.RaiseMore
import HandS.Walk
import HandS.Zip
import HandS.Comp
import HandS.Words
import HandS.Ends
import HandS.Dict
import KE.SortData
import PySem.Challenge.RW_peelings_k57_whole_perfect_crossings_and
set_option Elab.async false
set_option linter.all false
set_option maxRecDepth 100000
set_option maxHeartbeats 4000000
/-! Dn1: data in an abstract heap; the state of a running def as slots of data; what a step may change. -/
namespace Dn
open PySem PySem.Spec PyProof.Rows L2

abbrev D := PyData
abbrev St := L2.St
def keyD : Key → D
  | .inl i => .int i
  | .inr x => .str x
mutual
/-- the value v stands for d in the frozen part F of a heap -/
inductive Rp (F : Hp) : V → PyData → Prop
  | non : Rp F .non .none
  | bl (b : Bool) : Rp F (.bl b) (.bool b)
  | int (i : Int) : Rp F (.int i) (.int i)
  | str (x : Str) : Rp F (.str x) (.str x)
  | lst {a : Addr} {xs : List V} {ds : List PyData} : F a = some (.lst xs) → xs.length ≤ sizeLine → RpA F xs ds → Rp F (.ref a) (.list ds)
  | tup {a : Addr} {xs : List V} {ds : List PyData} : F a = some (.tup xs) → xs.length ≤ sizeLine → RpA F xs ds → Rp F (.ref a) (.tuple ds)
  | dk {a : Addr} {kvs : List (Key × V)} {ds : List (PyData × PyData)} : F a = some (.dK kvs) → RpK F kvs ds → Rp F (.ref a) (.dict ds)
  | dt {a : Addr} {kvs : List (List Key × V)} {ds : List (PyData × PyData)} : F a = some (.dT kvs) → kvs ≠ [] → RpT F kvs ds → Rp F (.ref a) (.dict ds)
inductive RpA (F : Hp) : List V → List PyData → Prop
  | nil : RpA F [] []
  | cons {v : V} {d : PyData} {vs : List V} {ds : List PyData} : Rp F v d → RpA F vs ds → RpA F (v :: vs) (d :: ds)
inductive RpK (F : Hp) : List (Key × V) → List (PyData × PyData) → Prop
  | nil : RpK F [] []
  | cons {k : Key} {v : V} {d : PyData} {vs : List (Key × V)} {ds : List (PyData × PyData)} : Rp F v d → RpK F vs ds → RpK F ((k, v) :: vs) ((keyD k, d) :: ds)
inductive RpT (F : Hp) : List (List Key × V) → List (PyData × PyData) → Prop
  | nil : RpT F [] []
  | cons {k : List Key} {v : V} {d : PyData} {vs : List (List Key × V)} {ds : List (PyData × PyData)} : Rp F v d → RpT F vs ds → RpT F ((k, v) :: vs) ((.tuple (k.map keyD), d) :: ds)
end
def Sub (F G : Hp) : Prop := ∀ b o, F b = some o → G b = some o
theorem Sub.refl (F : Hp) : Sub F F := fun _ _ h => h
theorem Sub.trans {F G H : Hp} (a : Sub F G) (b : Sub G H) : Sub F H := fun c o h => b c o (a c o h)
mutual
theorem Rp.mono {F G : Hp} (s : Sub F G) : ∀ {v : V} {d : PyData}, Rp F v d → Rp G v d
  | _, _, .non => .non
  | _, _, .bl b => .bl b
  | _, _, .int i => .int i
  | _, _, .str x => .str x
  | _, _, .lst h z r => .lst (s _ _ h) z (RpA.mono s r)
  | _, _, .tup h z r => .tup (s _ _ h) z (RpA.mono s r)
  | _, _, .dk h r => .dk (s _ _ h) (RpK.mono s r)
  | _, _, .dt h n r => .dt (s _ _ h) n (RpT.mono s r)
theorem RpA.mono {F G : Hp} (s : Sub F G) : ∀ {v : List V} {d : List PyData}, RpA F v d → RpA G v d
  | _, _, .nil => .nil
  | _, _, .cons h r => .cons (Rp.mono s h) (RpA.mono s r)
theorem RpK.mono {F G : Hp} (s : Sub F G) : ∀ {v : List (Key × V)} {d : List (PyData × PyData)}, RpK F v d → RpK G v d
  | _, _, .nil => .nil
  | _, _, .cons h r => .cons (Rp.mono s h) (RpK.mono s r)
theorem RpT.mono {F G : Hp} (s : Sub F G) : ∀ {v : List (List Key × V)} {d : List (PyData × PyData)}, RpT F v d → RpT G v d
  | _, _, .nil => .nil
  | _, _, .cons h r => .cons (Rp.mono s h) (RpT.mono s r)
end
section
variable {F : Hp}
theorem RpA.len : ∀ {xs : List V} {ds : List PyData}, RpA F xs ds → xs.length = ds.length
  | _, _, .nil => rfl
  | _, _, .cons _ r => by rw [List.length_cons, List.length_cons, RpA.len r]
theorem RpA.app : ∀ {xs ys : List V} {ds es : List PyData}, RpA F xs ds → RpA F ys es → RpA F (xs ++ ys) (ds ++ es)
  | _, _, _, _, .nil, s => s
  | _, _, _, _, .cons h r, s => .cons h (RpA.app r s)
theorem RpA.get : ∀ {xs : List V} {ds : List PyData} {i : Nat} {d : PyData}, RpA F xs ds → ds[i]? = some d → ∃ x, xs[i]? = some x ∧ Rp F x d
  | _, _, _, _, .nil, e => by simp at e
  | _, _, 0, _, .cons h _, e => by simp at e; subst e; exact ⟨_, rfl, h⟩
  | _, _, i + 1, _, .cons _ r, e => by
    obtain ⟨x, h1, h2⟩ := RpA.get (i := i) r (by simpa using e)
    exact ⟨x, by simpa using h1, h2⟩
theorem RpA.got : ∀ {xs : List V} {ds : List PyData} {i : Nat} {x : V}, RpA F xs ds → xs[i]? = some x → ∃ d, ds[i]? = some d ∧ Rp F x d
  | _, _, _, _, .nil, e => by simp at e
  | _, _, 0, _, .cons h _, e => by simp at e; subst e; exact ⟨_, rfl, h⟩
  | _, _, i + 1, _, .cons _ r, e => by
    obtain ⟨x, h1, h2⟩ := RpA.got (i := i) r (by simpa using e)
    exact ⟨x, by simpa using h1, h2⟩
theorem RpA.take : ∀ {xs : List V} {ds : List PyData} (n : Nat), RpA F xs ds → RpA F (xs.take n) (ds.take n)
  | _, _, 0, _ => by simpa using RpA.nil
  | _, _, _ + 1, .nil => by simpa using RpA.nil
  | _, _, n + 1, .cons h r => by simpa using RpA.cons h (RpA.take n r)
theorem RpA.drop : ∀ {xs : List V} {ds : List PyData} (n : Nat), RpA F xs ds → RpA F (xs.drop n) (ds.drop n)
  | _, _, 0, h => h
  | _, _, _ + 1, .nil => by simpa using RpA.nil
  | _, _, n + 1, .cons _ r => by simpa using RpA.drop n r
theorem RpA.rev : ∀ {xs : List V} {ds : List PyData}, RpA F xs ds → RpA F xs.reverse ds.reverse
  | _, _, .nil => .nil
  | _, _, .cons h r => by
    rw [List.reverse_cons, List.reverse_cons]
    exact RpA.app (RpA.rev r) (.cons h .nil)
theorem RpA.erase : ∀ {xs : List V} {ds : List PyData} (i : Nat), RpA F xs ds → RpA F (xs.eraseIdx i) (ds.eraseIdx i)
  | _, _, _, .nil => .nil
  | _, _, 0, .cons _ r => r
  | _, _, i + 1, .cons h r => .cons h (RpA.erase i r)
theorem RpA.dropLast {xs : List V} {ds : List PyData} (r : RpA F xs ds) : RpA F xs.dropLast ds.dropLast := by
  rw [List.dropLast_eq_take, List.dropLast_eq_take, r.len]; exact r.take _
theorem RpA.rep {xs : List V} {ds : List PyData} (r : RpA F xs ds) : ∀ k : Nat, RpA F (List.replicate k xs).flatten (List.replicate k ds).flatten
  | 0 => .nil
  | k + 1 => by
    rw [List.replicate_succ, List.replicate_succ, List.flatten_cons, List.flatten_cons]
    exact RpA.app r (RpA.rep r k)
theorem RpA.set : ∀ {xs : List V} {ds : List PyData} {v : V} {d : PyData} (i : Nat), RpA F xs ds → Rp F v d → RpA F (xs.set i v) (ds.set i d)
  | _, _, _, _, _, .nil, _ => .nil
  | _, _, _, _, 0, .cons _ r, h => .cons h r
  | _, _, _, _, i + 1, .cons h r, q => .cons h (RpA.set i r q)
theorem RpA.ints {F : Hp} : ∀ {xs : List V} {ns : List Int}, RpA F xs (ns.map .int) → xs = ns.map V.int
  | _, [], h => by cases h; rfl
  | _, n :: ns, h => by
    rw [List.map_cons] at h
    cases h with
    | cons h r => cases h; rw [List.map_cons, RpA.ints r]
theorem RpA.of_ints : ∀ (ns : List Int), RpA F (ns.map V.int) (ns.map .int)
  | [] => .nil
  | n :: ns => .cons (.int n) (RpA.of_ints ns)
theorem RpA.bls {F : Hp} : ∀ {xs : List V} {ns : List Bool}, RpA F xs (ns.map .bool) → xs = ns.map V.bl
  | _, [], h => by cases h; rfl
  | _, n :: ns, h => by
    rw [List.map_cons] at h
    cases h with
    | cons h r => cases h; rw [List.map_cons, RpA.bls r]
end

/-! ### what stands at an address that is not frozen -/
def Ob (H F : Hp) (a : Addr) : PyData → Prop
  | .list ds => ∃ xs, H a = some (.lst xs) ∧ xs.length ≤ sizeLine ∧ RpA F xs ds
  | .dict ds => (∃ kvs, H a = some (.dK kvs) ∧ RpK F kvs ds) ∨ ∃ kvs, H a = some (.dT kvs) ∧ kvs ≠ [] ∧ RpT F kvs ds
  | _ => False
theorem Ob.mono {H F H' F' : Hp} {a : Addr} {d : PyData} (h : Ob H F a d) (e : ∀ o, H a = some o → H' a = some o) (s : Sub F F') : Ob H' F' a d := by
  cases d with
  | list ds => obtain ⟨xs, h1, h2, h3⟩ := h; exact ⟨xs, e _ h1, h2, h3.mono s⟩
  | dict ds =>
    rcases h with ⟨kvs, h1, h3⟩ | ⟨kvs, h1, h2, h3⟩
    · exact .inl ⟨kvs, e _ h1, h3.mono s⟩
    · exact .inr ⟨kvs, e _ h1, h2, h3.mono s⟩
  | _ => exact h.elim
theorem Ob.there {H F : Hp} {a : Addr} {d : PyData} (h : Ob H F a d) : ∃ o, H a = some o := by
  cases d with
  | list ds => obtain ⟨xs, h1, _⟩ := h; exact ⟨_, h1⟩
  | dict ds =>
    rcases h with ⟨kvs, h1, h3⟩ | ⟨kvs, h1, h3⟩
    · exact ⟨_, h1⟩
    · exact ⟨_, h1⟩
  | _ => exact h.elim
/-- frozen now -/
theorem Ob.rp {H F F' : Hp} {a : Addr} {d : PyData} (h : Ob H F a d) (s : Sub F F') (e : F' a = H a) : Rp F' (.ref a) d := by
  cases d with
  | list ds => obtain ⟨xs, h1, h2, h3⟩ := h; exact .lst (e.trans h1) h2 (h3.mono s)
  | dict ds =>
    rcases h with ⟨kvs, h1, h3⟩ | ⟨kvs, h1, h2, h3⟩
    · exact .dk (e.trans h1) (h3.mono s)
    · exact .dt (e.trans h1) h2 (h3.mono s)
  | _ => exact h.elim

/-! ### the drawn source -/
structure Src where
  cells : List Int
  left : Int
  mixed : Int
  turn : Int
def SrcAt (H : Hp) (a c : Addr) (S : Src) : Prop :=
  H a = some (.dK [(.inr "cells", .ref c), (.inr "left", .int S.left), (.inr "mixed", .int S.mixed), (.inr "turn", .int S.turn)]) ∧ H c = some (.lst (S.cells.map V.int)) ∧ S.cells.length ≤ sizeLine
theorem SrcAt.ne {H : Hp} {a c : Addr} {S : Src} (h : SrcAt H a c S) : a ≠ c := ne_of h.1 h.2.1 (by intro z; cases z)

/-! ### the slots -/
/-- a slot: nothing known; a frozen datum; an owned list or dict; one that is only looked at; the source -/
inductive Sl where
  | un | im (d : PyData) | ow (d : PyData) | ro (d : PyData) | so
/-- its object is not frozen -/
def Sl.bor : Sl → Bool
  | .ow _ => true
  | .ro _ => true
  | _ => false
/-- a value on its way: frozen; fresh (nobody else's); what stands in the slot i; the source -/
inductive Vl where
  | im (d : PyData) | ow (d : PyData) | bo (i : Nat) | so
abbrev Rho := List Sl
/-- what never changes while a def runs: the heap and its frozen part at the entry, the source's two addresses -/
structure Bs where
  H0 : Hp
  F0 : Hp
  a0 : Addr
  c0 : Addr

def SlOk (B : Bs) (H F : Hp) (x : Option (Option V)) : Sl → Prop
  | .un => True
  | .im d => ∃ v, x = some (some v) ∧ Rp F v d
  | .ow d => ∃ a, x = some (some (.ref a)) ∧ Ob H F a d ∧ F a = none ∧ B.H0 a = none ∧ a ≠ B.a0 ∧ a ≠ B.c0
  | .ro d => ∃ a, x = some (some (.ref a)) ∧ Ob H F a d ∧ a ≠ B.a0 ∧ a ≠ B.c0
  | .so => x = some (some (.ref B.a0))
/-- what may be written -/
def DOwn (B : Bs) (σ : St) (ρ : Rho) (b : Addr) : Prop := b = B.a0 ∨ b = B.c0 ∨ ∃ (i : Nat) (d : PyData), ρ[i]? = some (.ow d) ∧ σ[i]? = some (some (.ref b))
structure DEnv (B : Bs) (σ : St) (H F : Hp) (ρ : Rho) (S : Src) : Prop where
  sub : Sub F H
  src : SrcAt H B.a0 B.c0 S
  fa : F B.a0 = none
  fc : F B.c0 = none
  keep : ∀ b o, B.H0 b = some o → b ≠ B.a0 → b ≠ B.c0 → H b = some o
  mono : Sub B.F0 F
  new : ∀ b, F b ≠ none → B.F0 b ≠ none ∨ B.H0 b = none
  len : ρ.length ≤ σ.length
  sl : ∀ (i : Nat) (s : Sl), ρ[i]? = some s → SlOk B H F (σ[i]?) s
  uni : ∀ (i j : Nat) (d : PyData) (s : Sl) (a : Addr), i ≠ j → ρ[i]? = some (.ow d) → ρ[j]? = some s → s.bor = true → σ[i]? = some (some (.ref a)) → σ[j]? ≠ some (some (.ref a))
/-- from (F, H) to (F', H'), M being what may be written or be frozen -/
structure Ext (M : Addr → Prop) (F H F' H' : Hp) : Prop where
  keep : ∀ b o, H b = some o → ¬ M b → H' b = some o
  mono : Sub F F'
  new : ∀ b, F' b ≠ none → F b ≠ none ∨ M b ∨ H b = none
  live : ∀ b, H' b = none → H b = none
theorem Ext.refl (M : Addr → Prop) (F H : Hp) : Ext M F H F H := ⟨fun _ _ h _ => h, Sub.refl _, fun _ h => .inl h, fun _ h => h⟩
theorem Ext.trans {M M' : Addr → Prop} {F H F1 H1 F2 H2 : Hp} (a : Ext M F H F1 H1) (b : Ext M' F1 H1 F2 H2) (h : ∀ x, M' x → M x ∨ H x = none) : Ext M F H F2 H2 where
  keep := fun c o e n => b.keep c o (a.keep c o e n) fun z => by
    rcases h c z with q | q
    · exact n q
    · rw [e] at q; cases q
  mono := a.mono.trans b.mono
  new := fun c e => by
    rcases b.new c e with q | q | q
    · exact a.new c q
    · rcases h c q with z | z
      · exact .inr (.inl z)
      · exact .inr (.inr z)
    · refine .inr ?_
      by_cases m : M c
      · exact .inl m
      · cases z : H c with
        | none => exact .inr rfl
        | some o => have := a.keep c o z m; rw [q] at this; cases this
  live := fun c e => a.live c (b.live c e)
theorem Ext.weak {M M' : Addr → Prop} {F H F' H' : Hp} (a : Ext M F H F' H') (h : ∀ x, M x → M' x) : Ext M' F H F' H' :=
  ⟨fun b o e n => a.keep b o e fun z => n (h b z), a.mono, fun b e => by
    rcases a.new b e with q | q | q
    · exact .inl q
    · exact .inr (.inl (h b q))
    · exact .inr (.inr q), a.live⟩

/-- the value v is what r says -/
def VOk (B : Bs) (σ : St) (H F : Hp) (ρ : Rho) (v : V) : Vl → Prop
  | .im d => Rp F v d
  | .ow d => ∃ a, v = .ref a ∧ Ob H F a d ∧ F a = none ∧ B.H0 a = none ∧ ¬ DOwn B σ ρ a
  | .bo i => σ[i]? = some (some v)
  | .so => v = .ref B.a0
/-- the datum that r means -/
def datOf (ρ : Rho) : Vl → Option PyData
  | .im d => some d
  | .ow d => some d
  | .bo i => match ρ[i]? with
    | some (.im d) => some d
    | some (.ow d) => some d
    | some (.ro d) => some d
    | _ => none
  | .so => none
/-- v may be read as d: frozen, or its own object is not frozen but its items are -/
def Rd1 (H F : Hp) (v : V) (d : PyData) : Prop := Rp F v d ∨ ∃ a, v = .ref a ∧ Ob H F a d
theorem VOk.rd {B : Bs} {σ : St} {H F : Hp} {ρ : Rho} {S : Src} {v : V} {r : Vl} {d : PyData} (E : DEnv B σ H F ρ S) (h : VOk B σ H F ρ v r) (e : datOf ρ r = some d) : Rd1 H F v d := by
  cases r with
  | im d' => cases e; exact .inl h
  | ow d' => cases e; obtain ⟨a, h1, h2, _⟩ := h; exact .inr ⟨a, h1, h2⟩
  | bo i =>
    have h : σ[i]? = some (some v) := h
    have e : (match ρ[i]? with
      | some (.im d) => some d
      | some (.ow d) => some d
      | some (.ro d) => some d
      | _ => none) = some d := e
    cases q : ρ[i]? with
    | none => rw [q] at e; cases e
    | some s =>
      rw [q] at e
      have z := E.sl i s q
      cases s with
      | im d' => cases e; obtain ⟨w, h1, h2⟩ := z; rw [h] at h1; cases h1; exact .inl h2
      | ow d' => cases e; obtain ⟨a, h1, h2, _⟩ := z; rw [h] at h1; cases h1; exact .inr ⟨a, rfl, h2⟩
      | ro d' => cases e; obtain ⟨a, h1, h2, _⟩ := z; rw [h] at h1; cases h1; exact .inr ⟨a, rfl, h2⟩
      | un => cases e
      | so => cases e
  | so => cases e
/-- a value stays what it is while others work -/
theorem VOk.stay {B : Bs} {σ : St} {H F H' F' : Hp} {ρ ρ' : Rho} {v : V} {r : Vl} {M : Addr → Prop} (h : VOk B σ H F ρ v r) (x : Ext M F H F' H') (hM : ∀ a d, r = .ow d → v = .ref a → ¬ M a) (ho : ∀ b, DOwn B σ ρ' b → DOwn B σ ρ b) : VOk B σ H' F' ρ' v r := by
  cases r with
  | im d => exact Rp.mono x.mono h
  | ow d =>
    obtain ⟨a, rfl, h2, h3, h4, h5⟩ := h
    have nM := hM a d rfl rfl
    refine ⟨a, rfl, h2.mono (fun o e => x.keep a o e nM) x.mono, ?_, h4, fun z => h5 (ho a z)⟩
    cases q : F' a with
    | none => rfl
    | some o =>
      rcases x.new a (by rw [q]; simp) with z | z | z
      · exact absurd h3 z
      · exact (nM z).elim
      · obtain ⟨o', e⟩ := h2.there; rw [e] at z; cases z
  | bo i => exact h
  | so => exact h

/-! ### the environment behind small changes -/
section
variable {B : Bs} {σ : St} {H F : Hp} {ρ : Rho} {S : Src}
theorem DEnv.live (E : DEnv B σ H F ρ S) {b : Addr} (h : DOwn B σ ρ b) : ∃ o, H b = some o := by
  rcases h with h | h | ⟨i, d, h1, h2⟩
  · exact ⟨_, by rw [h]; exact E.src.1⟩
  · exact ⟨_, by rw [h]; exact E.src.2.1⟩
  · obtain ⟨a, e, o, _⟩ := E.sl i _ h1
    rw [h2] at e; cases e
    exact o.there
/-- a new object, frozen or not -/
theorem DEnv.laid (E : DEnv B σ H F ρ S) {p : Addr} {o : HO} (hp : H p = none) : DEnv B σ (upd H p o) F ρ S where
  sub := fun b x e => by rw [upd_ne (ne_of_none (E.sub b x e) hp)]; exact E.sub b x e
  src := ⟨by rw [upd_ne (ne_of_none E.src.1 hp)]; exact E.src.1, by rw [upd_ne (ne_of_none E.src.2.1 hp)]; exact E.src.2.1, E.src.2.2⟩
  fa := E.fa
  fc := E.fc
  keep := fun b x e n1 n2 => by have z := E.keep b x e n1 n2; rw [upd_ne (ne_of_none z hp)]; exact z
  mono := E.mono
  new := E.new
  len := E.len
  sl := fun i s e => by
    have z := E.sl i s e
    cases s with
    | un => trivial
    | im d => exact z
    | ow d =>
      obtain ⟨a, h1, h2, h3⟩ := z
      exact ⟨a, h1, h2.mono (fun q e => by rw [upd_ne (ne_of_none e hp)]; exact e) (Sub.refl _), h3⟩
    | ro d =>
      obtain ⟨a, h1, h2, h3⟩ := z
      exact ⟨a, h1, h2.mono (fun q e => by rw [upd_ne (ne_of_none e hp)]; exact e) (Sub.refl _), h3⟩
    | so => exact z
  uni := E.uni
theorem DEnv.noF (E : DEnv B σ H F ρ S) {p : Addr} (hp : H p = none) : F p = none := by
  cases q : F p with
  | none => rfl
  | some o => rw [E.sub p o q] at hp; cases hp
/-- an unowned, live object is frozen -/
theorem DEnv.froze (E : DEnv B σ H F ρ S) {p : Addr} {o : HO} (hp : H p = some o) (hF : F p = none) (h0 : B.H0 p = none) (hn : ¬ DOwn B σ ρ p) : DEnv B σ H (upd F p o) ρ S := by
  have sF : Sub F (upd F p o) := fun b x e => by rw [upd_ne (ne_of_none e hF)]; exact e
  refine ⟨fun b x e => ?_, E.src, ?_, ?_, E.keep, E.mono.trans sF, fun b e => ?_, E.len, fun i s e => ?_, E.uni⟩
  · by_cases hb : b = p
    · subst hb; rw [upd_same] at e; cases e; exact hp
    · rw [upd_ne hb] at e; exact E.sub b x e
  · rw [upd_ne (fun z => hn (.inl z.symm))]; exact E.fa
  · rw [upd_ne (fun z => hn (.inr (.inl z.symm)))]; exact E.fc
  · by_cases hb : b = p
    · subst hb; exact .inr h0
    · rw [upd_ne hb] at e; exact E.new b e
  · have z := E.sl i s e
    cases s with
    | un => trivial
    | im d => obtain ⟨v, h1, h2⟩ := z; exact ⟨v, h1, h2.mono sF⟩
    | ow d =>
      obtain ⟨a, h1, h2, h3, h4⟩ := z
      refine ⟨a, h1, h2.mono (fun _ q => q) sF, ?_, h4⟩
      rw [upd_ne (fun z => hn (by rw [← z]; exact .inr (.inr ⟨i, d, e, h1⟩)))]; exact h3
    | ro d => obtain ⟨a, h1, h2, h3⟩ := z; exact ⟨a, h1, h2.mono (fun _ q => q) sF, h3⟩
    | so => exact z
theorem ext_froze {M : Addr → Prop} {p : Addr} {o : HO} (hF : F p = none) (hM : M p) : Ext M F H (upd F p o) H :=
  ⟨fun _ _ e _ => e, fun b x e => by rw [upd_ne (ne_of_none e hF)]; exact e, fun b e => by
    by_cases hb : b = p
    · subst hb; exact .inr (.inl hM)
    · rw [upd_ne hb] at e; exact .inl e, fun _ e => e⟩
theorem ext_laid {M : Addr → Prop} {p : Addr} {o : HO} (hp : H p = none) : Ext M F H F (upd H p o) :=
  ⟨fun b x e _ => by rw [upd_ne (ne_of_none e hp)]; exact e, Sub.refl _, fun b e => .inl e, fun b e => by
    by_cases hb : b = p
    · subst hb; exact hp
    · rw [upd_ne hb] at e; exact e⟩
/-- a fresh value is frozen -/
theorem VOk.fz (E : DEnv B σ H F ρ S) {v : V} {d : PyData} (h : VOk B σ H F ρ v (.ow d)) : ∃ F', Rp F' v d ∧ DEnv B σ H F' ρ S ∧ Ext (fun b => v = .ref b) F H F' H := by
  obtain ⟨a, rfl, h2, h3, h4, h5⟩ := h
  obtain ⟨o, e⟩ := h2.there
  refine ⟨upd F a o, h2.rp (fun b x q => by rw [upd_ne (ne_of_none q h3)]; exact q) (upd_same.trans e.symm), E.froze e h3 h4 h5, ext_froze h3 rfl⟩
end
end Dn

set_option Elab.async false
set_option linter.all false
set_option maxRecDepth 100000
set_option maxHeartbeats 4000000
/-! Dn2: what an expression, a test, an argument list means over slots; the readings made of it. -/
namespace Dn
open PySem PySem.Spec PyProof.Rows L2

abbrev SE := Rho → Src → Option (Vl × Rho × Src)
abbrev STt := Rho → Src → Option (Bool × Rho × Src)
abbrev SA := Rho → Src → Option (List Vl × Rho × Src)
inductive Fl where
  | nx | bk | ct | rt (d : PyData)
abbrev SS := Rho → Src → Option (Fl × Rho × Src)

/-- what is wanted behind an expression -/
def KE (B : Bs) (σ : St) (F H : Hp) (ρ : Rho) (r : Vl) (ρ' : Rho) (S' : Src) (Q : VK) : Prop :=
  ∀ v H' F', DEnv B σ H' F' ρ' S' → Ext (DOwn B σ ρ) F H F' H' → (∀ b, DOwn B σ ρ' b → DOwn B σ ρ b) → VOk B σ H' F' ρ' v r → (∀ d a, r = .ow d → v = .ref a → H a = none) → Q v H'
def tE (f : SE) : TE := fun σ H Q => ∃ B F ρ S r ρ' S', DEnv B σ H F ρ S ∧ f ρ S = some (r, ρ', S') ∧ KE B σ F H ρ r ρ' S' Q
def tT (f : STt) : TT := fun σ H Q => ∃ B F ρ S r ρ' S', DEnv B σ H F ρ S ∧ f ρ S = some (r, ρ', S') ∧
  ∀ H' F', DEnv B σ H' F' ρ' S' → Ext (DOwn B σ ρ) F H F' H' → (∀ b, DOwn B σ ρ' b → DOwn B σ ρ b) → Q r H'
/-- several values, the fresh ones all unlike -/
inductive VsOk (B : Bs) (σ : St) (H F : Hp) (ρ : Rho) : List V → List Vl → Prop
  | nil : VsOk B σ H F ρ [] []
  | cons {v : V} {r : Vl} {vs : List V} {rs : List Vl} : VOk B σ H F ρ v r → (∀ d a, r = .ow d → v = .ref a → ∀ (j : Nat) (e : PyData), rs[j]? = some (.ow e) → vs[j]? ≠ some (.ref a)) → VsOk B σ H F ρ vs rs → VsOk B σ H F ρ (v :: vs) (r :: rs)
def tA (f : SA) : TA := fun σ H Q => ∃ B F ρ S rs ρ' S', DEnv B σ H F ρ S ∧ f ρ S = some (rs, ρ', S') ∧
  ∀ vs H' F', DEnv B σ H' F' ρ' S' → Ext (DOwn B σ ρ) F H F' H' → (∀ b, DOwn B σ ρ' b → DOwn B σ ρ b) → VsOk B σ H' F' ρ' vs rs → (∀ (j : Nat) d a, rs[j]? = some (.ow d) → vs[j]? = some (.ref a) → H a = none) → Q vs H'
def tS (m : SS) : TS := fun D σ H => ∃ B F ρ S fl ρ' S', DEnv B σ H F ρ S ∧ m ρ S = some (fl, ρ', S') ∧
  ∀ σ' H' F', DEnv B σ' H' F' ρ' S' → Sub F F' → match fl with
    | .nx => D.nx σ' H'
    | .bk => D.bk σ' H'
    | .ct => D.ct σ' H'
    | .rt d => ∀ v, Rp F' v d → D.rt v H'

theorem PE.imp {X : Cx} {e : Expr} {t t' : TE} (h : PE X e t) (k : ∀ σ H Q, t' σ H Q → t σ H Q) : PE X e t' := ⟨fun pins s σ H Q I q => h.run pins s σ H Q I (k σ H Q q)⟩
theorem PT.imp {X : Cx} {e : Expr} {t t' : TT} (h : PT X e t) (k : ∀ σ H Q, t' σ H Q → t σ H Q) : PT X e t' := ⟨fun pins s σ H Q I q => h.run pins s σ H Q I (k σ H Q q)⟩
theorem PW.imp {X : Cx} {e : Expr} {t t' : TT} (h : PW X e t) (k : ∀ σ H Q, t' σ H Q → t σ H Q) : PW X e t' := ⟨fun wh pins s σ H Q I q => h.run wh pins s σ H Q I (k σ H Q q)⟩
theorem PA.imp {X : Cx} {e : List Expr} {t t' : TA} (h : PA X e t) (k : ∀ σ H Q, t' σ H Q → t σ H Q) : PA X e t' := ⟨fun pos pins s σ H Q I q => h.run pos pins s σ H Q I (k σ H Q q)⟩
theorem PS.imp {X : Cx} {e : Stmt} {t t' : TS} (h : PS X e t) (k : ∀ D σ H, t' D σ H → t D σ H) : PS X e t' := ⟨fun pins s σ H D I q => h.run pins s σ H D I (k D σ H q)⟩
theorem PSs.imp {X : Cx} {e : List Stmt} {t t' : TS} (h : PSs X e t) (k : ∀ D σ H, t' D σ H → t D σ H) : PSs X e t' := ⟨fun pins s σ H D I q => h.run pins s σ H D I (k D σ H q)⟩

section
variable {B : Bs} {σ : St} {H F : Hp} {ρ ρ' : Rho} {S S' : Src} {Q : VK} {r : Vl}
/-- behind a first step the rest's continuation is the whole's -/
theorem KE.after {H1 F1 : Hp} {ρ1 : Rho} (x : Ext (DOwn B σ ρ) F H F1 H1) (o : ∀ b, DOwn B σ ρ1 b → DOwn B σ ρ b) (k : KE B σ F H ρ r ρ' S' Q) : KE B σ F1 H1 ρ1 r ρ' S' Q :=
  fun v H' F' E' x' o' ok fr => k v H' F' E' (x.trans x' fun b z => .inl (o b z)) (fun b z => o b (o' b z)) ok fun d a h1 h2 => x.live a (fr d a h1 h2)
/-- the result at once -/
theorem KE.val {v : V} (E : DEnv B σ H F ρ' S') (o : ∀ b, DOwn B σ ρ' b → DOwn B σ ρ b) (k : KE B σ F H ρ r ρ' S' Q) (ok : VOk B σ H F ρ' v r) (fr : ∀ d, r ≠ .ow d) : Q v H :=
  k v H F E (Ext.refl _ _ _) o ok fun d _ h => absurd h (fr d)
theorem KE.tup {xs : List V} {ds : List PyData} (E : DEnv B σ H F ρ S) (k : KE B σ F H ρ (.im (.tuple ds)) ρ S Q) (a : RpA F xs ds) (z : xs.length ≤ sizeLine) : ∀ p, H p = none → Q (.ref p) (upd H p (.tup xs)) := by
  intro p hp
  have hF := E.noF hp
  have E1 : DEnv B σ (upd H p (.tup xs)) F ρ S := E.laid hp
  have n0 : B.H0 p = none := by
    cases q : B.H0 p with
    | none => rfl
    | some o =>
      by_cases h1 : p = B.a0
      · rw [h1, E.src.1] at hp; cases hp
      · by_cases h2 : p = B.c0
        · rw [h2, E.src.2.1] at hp; cases hp
        · rw [E.keep p o q h1 h2] at hp; cases hp
  have nO : ¬ DOwn B σ ρ p := fun z => by obtain ⟨o, e⟩ := E.live z; rw [hp] at e; cases e
  have E2 := E1.froze (p := p) (o := .tup xs) upd_same hF n0 nO
  refine k (.ref p) _ _ E2 ?_ (fun _ z => z) (.tup upd_same z (a.mono fun b x e => by rw [upd_ne (ne_of_none e hF)]; exact e)) (fun d a h => by cases h)
  refine ⟨fun b o e _ => by rw [upd_ne (ne_of_none e hp)]; exact e, fun b x e => by rw [upd_ne (ne_of_none e hF)]; exact e, fun b e => ?_, fun b e => ?_⟩
  · by_cases hb : b = p
    · subst hb; exact .inr (.inr hp)
    · rw [upd_ne hb] at e; exact .inl e
  · by_cases hb : b = p
    · subst hb; exact hp
    · rw [upd_ne hb] at e; exact e
theorem DEnv.n0 (E : DEnv B σ H F ρ S) {p : Addr} (hp : H p = none) : B.H0 p = none := by
  cases q : B.H0 p with
  | none => rfl
  | some o =>
    by_cases h1 : p = B.a0
    · rw [h1, E.src.1] at hp; cases hp
    · by_cases h2 : p = B.c0
      · rw [h2, E.src.2.1] at hp; cases hp
      · rw [E.keep p o q h1 h2] at hp; cases hp
theorem KE.obj {d : PyData} {p : Addr} {o : HO} (E : DEnv B σ H F ρ S) (k : KE B σ F H ρ (.ow d) ρ S Q) (hp : H p = none) (ob : Ob (upd H p o) F p d) : Q (.ref p) (upd H p o) := by
  have nO : ¬ DOwn B σ ρ p := fun z => by obtain ⟨o, e⟩ := E.live z; rw [hp] at e; cases e
  exact k (.ref p) _ _ (E.laid hp) (ext_laid hp) (fun _ z => z) ⟨p, rfl, ob, E.noF hp, E.n0 hp, nO⟩ fun d a _ h => by cases h; exact hp
theorem KE.lst {xs : List V} {ds : List PyData} (E : DEnv B σ H F ρ S) (k : KE B σ F H ρ (.ow (.list ds)) ρ S Q) (a : RpA F xs ds) (z : xs.length ≤ sizeLine) : ∀ p, H p = none → Q (.ref p) (upd H p (.lst xs)) :=
  fun p hp => KE.obj E k hp ⟨xs, upd_same, z, a⟩
end

/-! ### results of operations by values -/
/-- what an operation may give: a known value or a new tuple; a new list or dict -/
inductive Rs where
  | im (d : PyData) | ow (d : PyData)
def Rs.vl : Rs → Vl
  | .im d => .im d
  | .ow d => .ow d
def Res (H F : Hp) (r : Rs) (Q : VK) : Prop :=
  match r with
  | .im d => (∀ v, Rp F v d → Q v H) ∧ ∀ xs ds, d = .tuple ds → RpA F xs ds → xs.length ≤ sizeLine → ∀ p, H p = none → Q (.ref p) (upd H p (.tup xs))
  | .ow d => ∀ p o, H p = none → Ob (upd H p o) F p d → Q (.ref p) (upd H p o)
theorem Res.lst {H F : Hp} {Q : VK} {xs : List V} {ds : List PyData} (h : Res H F (.ow (.list ds)) Q) (a : RpA F xs ds) (z : xs.length ≤ sizeLine) : ∀ p, H p = none → Q (.ref p) (upd H p (.lst xs)) :=
  fun p hp => h p (.lst xs) hp ⟨xs, upd_same, z, a⟩
theorem Res.tup {H F : Hp} {Q : VK} {xs : List V} {ds : List PyData} (h : Res H F (.im (.tuple ds)) Q) (a : RpA F xs ds) (z : xs.length ≤ sizeLine) : ∀ p, H p = none → Q (.ref p) (upd H p (.tup xs)) :=
  fun p hp => h.2 xs ds rfl a z p hp
theorem Res.val {H F : Hp} {Q : VK} {v : V} {d : PyData} (h : Res H F (.im d) Q) (a : Rp F v d) : Q v H := h.1 v a
theorem Res.of {B : Bs} {σ : St} {H F : Hp} {ρ : Rho} {S : Src} {r : Rs} {Q : VK} (E : DEnv B σ H F ρ S) (k : KE B σ F H ρ r.vl ρ S Q) : Res H F r Q := by
  cases r with
  | im d => exact ⟨fun v a => KE.val E (fun _ z => z) k a (fun d h => by cases h), fun xs ds e a z p hp => by subst e; exact KE.tup E k a z p hp⟩
  | ow d => exact fun p o hp ob => KE.obj E k hp ob

/-! ### names, constants -/
def eVar (i : Nat) : SE := fun ρ S => match ρ[i]? with
  | some (.im d) => some (.im d, ρ, S)
  | some (.ow _) => some (.bo i, ρ, S)
  | some (.ro _) => some (.bo i, ρ, S)
  | some .so => some (.so, ρ, S)
  | _ => none
def eC (d : PyData) : SE := fun ρ S => some (.im d, ρ, S)
section
variable {X : Cx}
theorem dVar {i : Nat} {e : Expr} (h : PE X e (tVar i)) : PE X e (tE (eVar i)) := by
  refine PE.imp h fun σ H Q q => ?_
  obtain ⟨B, F, ρ, S, r, ρ', S', E, e, k⟩ := q
  unfold eVar at e
  cases z : ρ[i]? with
  | none => rw [z] at e; cases e
  | some s =>
    rw [z] at e
    have w := E.sl i s z
    cases s with
    | un => cases e
    | im d => cases e; obtain ⟨v, h1, h2⟩ := w; exact ⟨v, h1, KE.val E (fun _ z => z) k h2 fun d h => by cases h⟩
    | ow d => cases e; obtain ⟨a, h1, _⟩ := w; exact ⟨_, h1, KE.val E (fun _ z => z) k h1 fun d h => by cases h⟩
    | ro d => cases e; obtain ⟨a, h1, _⟩ := w; exact ⟨_, h1, KE.val E (fun _ z => z) k h1 fun d h => by cases h⟩
    | so => cases e; exact ⟨_, w, KE.val E (fun _ z => z) k rfl fun d h => by cases h⟩
theorem dC {e : Expr} {v : V} {d : PyData} (h : PE X e (tC v)) (hr : ∀ F, Rp F v d) : PE X e (tE (eC d)) := by
  refine PE.imp h fun σ H Q q => ?_
  obtain ⟨B, F, ρ, S, r, ρ', S', E, e, k⟩ := q
  cases e
  exact KE.val E (fun _ z => z) k (hr F) fun d h => by cases h
theorem dInt {i j pos} : PE X (.Constant (.int i) j pos) (tE (eC (.int i))) := dC pe_int fun _ => .int i
theorem dBool {i j pos} : PE X (.Constant (.bool i) j pos) (tE (eC (.bool i))) := dC pe_bl fun _ => .bl i
theorem dNone {j pos} : PE X (.Constant .none j pos) (tE (eC .none)) := dC pe_non fun _ => .non
theorem dStr {x j pos} : PE X (.Constant (.str x) j pos) (tE (eC (.str x))) := dC pe_str fun _ => .str x
end

/-! ### two operands -/
def eBin (g : PyData → PyData → Option Rs) (fa fb : SE) : SE := fun ρ S => do
  let (r1, ρ1, S1) ← fa ρ S
  let (r2, ρ2, S2) ← fb ρ1 S1
  let d1 ← datOf ρ2 r1
  let d2 ← datOf ρ2 r2
  let r ← g d1 d2
  some (r.vl, ρ2, S2)
/-- r does by values what g says of data -/
structure Op2 (r : R2) (g : PyData → PyData → Option Rs) : Prop where
  run : ∀ (H F : Hp) (v w : V) (d e : PyData) (o : Rs) (Q : VK), Sub F H → Rd1 H F v d → Rd1 H F w e → g d e = some o → Res H F o Q → r v w H Q
theorem bind_some {α β : Type} {o : Option α} {f : α → Option β} {b : β} (h : (o >>= f) = some b) : ∃ a, o = some a ∧ f a = some b := by
  cases o with
  | none => cases h
  | some a => exact ⟨a, rfl, h⟩
theorem eBin_some {g : PyData → PyData → Option Rs} {fa fb : SE} {ρ : Rho} {S : Src} {z : Vl × Rho × Src} (h : eBin g fa fb ρ S = some z) :
    ∃ r1 ρ1 S1 r2 d1 d2 o, fa ρ S = some (r1, ρ1, S1) ∧ fb ρ1 S1 = some (r2, z.2.1, z.2.2) ∧ datOf z.2.1 r1 = some d1 ∧ datOf z.2.1 r2 = some d2 ∧ g d1 d2 = some o ∧ z.1 = o.vl := by
  unfold eBin at h
  obtain ⟨⟨r1, ρ1, S1⟩, e1, h⟩ := bind_some h
  obtain ⟨⟨r2, ρ2, S2⟩, e2, h⟩ := bind_some h
  obtain ⟨d1, e3, h⟩ := bind_some h
  obtain ⟨d2, e4, h⟩ := bind_some h
  obtain ⟨r, e5, h⟩ := bind_some h
  cases h
  exact ⟨r1, ρ1, S1, r2, d1, d2, r, e1, e2, e3, e4, e5, rfl⟩
/-- evaluating two things in a row -/
theorem two_imp {fa fb : SE} {R : V → V → Hp → Prop} {σ : St} {H : Hp} {B : Bs} {F : Hp} {ρ ρ1 ρ2 : Rho} {S S1 S2 : Src} {r1 r2 : Vl} (E : DEnv B σ H F ρ S) (e1 : fa ρ S = some (r1, ρ1, S1)) (e2 : fb ρ1 S1 = some (r2, ρ2, S2))
    (k : ∀ v w H2 F2, DEnv B σ H2 F2 ρ2 S2 → Ext (DOwn B σ ρ) F H F2 H2 → (∀ b, DOwn B σ ρ2 b → DOwn B σ ρ b) → VOk B σ H2 F2 ρ2 v r1 → VOk B σ H2 F2 ρ2 w r2 →
      (∀ d a, r1 = .ow d → v = .ref a → H a = none) → (∀ d a, r2 = .ow d → w = .ref a → H a = none) → (∀ d e a b, r1 = .ow d → r2 = .ow e → v = .ref a → w = .ref b → a ≠ b) → R v w H2) :
    tE fa σ H fun x H1 => tE fb σ H1 fun y H2 => R x y H2 := by
  refine ⟨B, F, ρ, S, r1, ρ1, S1, E, e1, fun v H1 F1 E1 x1 o1 ok1 fr1 => ⟨B, F1, ρ1, S1, r2, ρ2, S2, E1, e2, fun w H2 F2 E2 x2 o2 ok2 fr2 => ?_⟩⟩
  refine k v w H2 F2 E2 (x1.trans x2 fun b z => .inl (o1 b z)) (fun b z => o1 b (o2 b z)) (ok1.stay x2 (fun a d h1 h2 m => ?_) o2) ok2 fr1 (fun d a h1 h2 => x1.live a (fr2 d a h1 h2)) fun d e a b h1 h2 h3 h4 z => ?_
  · subst h1
    obtain ⟨a', h3, _, _, _, h5⟩ := ok1
    rw [h2] at h3; cases h3
    exact h5 m
  · have q := fr2 e b h2 h4
    subst h1
    obtain ⟨a', h5, h6, _⟩ := ok1
    rw [h3] at h5; cases h5
    obtain ⟨o, h7⟩ := h6.there
    rw [z, q] at h7; cases h7
theorem bin_imp {r : R2} {g : PyData → PyData → Option Rs} {fa fb : SE} (ho : Op2 r g) {σ : St} {H : Hp} {Q : VK} (q : tE (eBin g fa fb) σ H Q) : tOp r (tE fa) (tE fb) σ H Q := by
  obtain ⟨B, F, ρ, S, o, ρ2, S2, E, e, k⟩ := q
  obtain ⟨r1, ρ1, S1, r2, d1, d2, u, e1, e2, e3, e4, e5, e6⟩ := eBin_some e
  replace e6 : o = u.vl := e6
  subst e6
  refine two_imp (R := fun x y H2 => r x y H2 Q) E e1 e2 fun v w H2 F2 E2 x2 o2 ok1 ok2 _ _ _ => ?_
  exact ho.run H2 F2 v w d1 d2 u Q E2.sub (ok1.rd E2 e3) (ok2.rd E2 e4) e5 (Res.of E2 (KE.after x2 o2 k))
/-- one operand -/
def eUn (g : PyData → Option Rs) (fa : SE) : SE := fun ρ S => do
  let (r1, ρ1, S1) ← fa ρ S
  let d1 ← datOf ρ1 r1
  let r ← g d1
  some (r.vl, ρ1, S1)
structure Op1 (r : V → Hp → VK → Prop) (g : PyData → Option Rs) : Prop where
  run : ∀ (H F : Hp) (v : V) (d : PyData) (o : Rs) (Q : VK), Sub F H → Rd1 H F v d → g d = some o → Res H F o Q → r v H Q
theorem un_imp {r : V → Hp → VK → Prop} {g : PyData → Option Rs} {fa : SE} (ho : Op1 r g) {σ : St} {H : Hp} {Q : VK} (q : tE (eUn g fa) σ H Q) : tUn r (tE fa) σ H Q := by
  obtain ⟨B, F, ρ, S, o, ρ2, S2, E, e, k⟩ := q
  unfold eUn at e
  obtain ⟨⟨r1, ρ1, S1⟩, e1, e⟩ := bind_some e
  obtain ⟨d1, e2, e⟩ := bind_some e
  obtain ⟨r', e3, e⟩ := bind_some e
  cases e
  exact ⟨B, F, ρ, S, r1, _, _, E, e1, fun v H1 F1 E1 x1 o1 ok1 fr1 => ho.run H1 F1 v d1 _ Q E1.sub (ok1.rd E1 e2) e3 (Res.of E1 (KE.after x1 o1 k))⟩

/-! ### tests -/
def ofE (f : SE) : STt := fun ρ S => do
  let (r, ρ1, S1) ← f ρ S
  match r with
  | .im (.bool b) => some (b, ρ1, S1)
  | _ => none
theorem ofE_some {f : SE} {ρ : Rho} {S : Src} {b : Bool} {ρ1 : Rho} {S1 : Src} (h : ofE f ρ S = some (b, ρ1, S1)) : f ρ S = some (.im (.bool b), ρ1, S1) := by
  unfold ofE at h
  obtain ⟨⟨r, ρ', S'⟩, e, h⟩ := bind_some h
  cases r with
  | im d => cases d with
    | bool c => cases h; exact e
    | _ => cases h
  | _ => cases h
theorem test_imp {f : SE} {t : TE} (k : ∀ σ H Q, tE f σ H Q → t σ H Q) : ∀ σ H Q, tT (ofE f) σ H Q → tTest t σ H Q := by
  rintro σ H Q ⟨B, F, ρ, S, b, ρ', S', E, e, q⟩
  refine k σ H _ ⟨B, F, ρ, S, _, ρ', S', E, ofE_some e, fun v H' F' E' x o ok fr => ?_⟩
  cases (show Rp F' v (.bool b) from ok)
  exact ⟨b, rfl, q H' F' E' x o⟩
section
variable {X : Cx} {e a b c : Expr} {fa fb fc : SE} {pos : Pos} {ta tb : STt}
theorem dOp {op : Operator} {r : R2} {g : PyData → PyData → Option Rs} (h : OpR X (binaryOp op) r) (ho : Op2 r g) (ha : PE X a (tE fa)) (hb : PE X b (tE fb)) : PE X (.BinOp a op b pos) (tE (eBin g fa fb)) :=
  PE.imp (pe_op h ha hb) fun _ _ _ q => bin_imp ho q
theorem dUn {op : UnaryOp} {r : V → Hp → VK → Prop} {g : PyData → Option Rs} (h : UnR X (unaryOp op) r) (ho : Op1 r g) (ha : PE X a (tE fa)) : PE X (.UnaryOp op a pos) (tE (eUn g fa)) :=
  PE.imp (pe_un h ha) fun _ _ _ q => un_imp ho q
theorem dCmp {op : CmpOp} {r : R2} {g : PyData → PyData → Option Rs} (h : OpR X (compareOp op) r) (ho : Op2 r g) (ha : PE X a (tE fa)) (hb : PE X b (tE fb)) (hm : behindInMarks op b = false) : PE X (.Compare a [op] [b] pos) (tE (eBin g fa fb)) :=
  PE.imp (pe_cmpR h ha hb hm) fun _ _ _ q => bin_imp ho q
theorem dCmpT {op : CmpOp} {r : R2} {g : PyData → PyData → Option Rs} (h : OpR X (compareOp op) r) (ho : Op2 r g) (ha : PE X a (tE fa)) (hb : PE X b (tE fb)) (hm : behindInMarks op b = false) : PT X (.Compare a [op] [b] pos) (tT (ofE (eBin g fa fb))) :=
  PT.imp (pt_cmpR h ha hb hm) (test_imp fun _ _ _ q => bin_imp ho q)
/-- any expression that gives a bool, as a test -/
theorem dTst (ha : PE X e (tE fa)) (he : ∀ whole, isTrue e X.env whole = (do let v ← whole; standAt e.pos; holding [v] (truthy v)) := by intro _; rfl) : PT X e (tT (ofE fa)) :=
  PT.imp (pt_val ha he) fun σ H Q q => test_imp (t := tE fa) (fun _ _ _ q => q) σ H Q q
def sNot (t : STt) : STt := fun ρ S => do
  let (c, ρ1, S1) ← t ρ S
  some (!c, ρ1, S1)
def sAnd (t u : STt) : STt := fun ρ S => do
  let (c, ρ1, S1) ← t ρ S
  if c then u ρ1 S1 else some (false, ρ1, S1)
def sOr (t u : STt) : STt := fun ρ S => do
  let (c, ρ1, S1) ← t ρ S
  if c then some (true, ρ1, S1) else u ρ1 S1
theorem dNot (ha : PT X a (tT ta)) : PT X (.UnaryOp .Not a pos) (tT (sNot ta)) := by
  refine PT.imp (pt_not ha) ?_
  rintro σ H Q ⟨B, F, ρ, S, c, ρ', S', E, e, q⟩
  obtain ⟨⟨c', ρ1, S1⟩, e1, e⟩ := bind_some e
  cases e
  exact ⟨B, F, ρ, S, c', _, _, E, e1, q⟩
theorem dAnd1 (ha : PT X a (tT ta)) : PW X (.BoolOp .And [a] pos) (tT ta) := pw_and1 ha
theorem dOr1 (ha : PT X a (tT ta)) : PW X (.BoolOp .Or [a] pos) (tT ta) := pw_or1 ha
theorem dAnd {rest : List Expr} (ha : PT X a (tT ta)) (hb : PW X (.BoolOp .And (b :: rest) pos) (tT tb)) : PW X (.BoolOp .And (a :: b :: rest) pos) (tT (sAnd ta tb)) := by
  refine PW.imp (pw_and ha hb) ?_
  rintro σ H Q ⟨B, F, ρ, S, c, ρ', S', E, e, q⟩
  obtain ⟨⟨c', ρ1, S1⟩, e1, e⟩ := bind_some e
  refine ⟨B, F, ρ, S, c', ρ1, S1, E, e1, fun H1 F1 E1 x1 o1 => ?_⟩
  cases c' with
  | true => exact ⟨B, F1, ρ1, S1, c, ρ', S', E1, e, fun H2 F2 E2 x2 o2 => q H2 F2 E2 (x1.trans x2 fun b z => .inl (o1 b z)) fun b z => o1 b (o2 b z)⟩
  | false => cases e; exact q H1 F1 E1 x1 o1
theorem dOr {rest : List Expr} (ha : PT X a (tT ta)) (hb : PW X (.BoolOp .Or (b :: rest) pos) (tT tb)) : PW X (.BoolOp .Or (a :: b :: rest) pos) (tT (sOr ta tb)) := by
  refine PW.imp (pw_or ha hb) ?_
  rintro σ H Q ⟨B, F, ρ, S, c, ρ', S', E, e, q⟩
  obtain ⟨⟨c', ρ1, S1⟩, e1, e⟩ := bind_some e
  refine ⟨B, F, ρ, S, c', ρ1, S1, E, e1, fun H1 F1 E1 x1 o1 => ?_⟩
  cases c' with
  | false => exact ⟨B, F1, ρ1, S1, c, ρ', S', E1, e, fun H2 F2 E2 x2 o2 => q H2 F2 E2 (x1.trans x2 fun b z => .inl (o1 b z)) fun b z => o1 b (o2 b z)⟩
  | true => cases e; exact q H1 F1 E1 x1 o1
/-- and, or, not, if-else as values -/
def eAnd (fa fb : SE) : SE := fun ρ S => do
  let (c, ρ1, S1) ← ofE fa ρ S
  if c then fb ρ1 S1 else some (.im (.bool false), ρ1, S1)
def eOr (fa fb : SE) : SE := fun ρ S => do
  let (c, ρ1, S1) ← ofE fa ρ S
  if c then some (.im (.bool true), ρ1, S1) else fb ρ1 S1
def eNot (fa : SE) : SE := fun ρ S => do
  let (c, ρ1, S1) ← ofE fa ρ S
  some (.im (.bool (!c)), ρ1, S1)
def eIf (t : STt) (fa fb : SE) : SE := fun ρ S => do
  let (c, ρ1, S1) ← t ρ S
  if c then fa ρ1 S1 else fb ρ1 S1
theorem dOneV {op} (ha : PE X a (tE fa)) : PE X (.BoolOp op [a] pos) (tE fa) := pe_one ha
theorem dAndV {rest : List Expr} (ha : PE X a (tE fa)) (hb : PE X (.BoolOp .And (b :: rest) pos) (tE fb)) : PE X (.BoolOp .And (a :: b :: rest) pos) (tE (eAnd fa fb)) := by
  refine PE.imp (pe_and ha hb) ?_
  rintro σ H Q ⟨B, F, ρ, S, r, ρ', S', E, e, q⟩
  obtain ⟨⟨c', ρ1, S1⟩, e1, e⟩ := bind_some e
  refine ⟨B, F, ρ, S, _, ρ1, S1, E, ofE_some e1, fun v H1 F1 E1 x1 o1 ok fr => ?_⟩
  cases (show Rp F1 v (.bool c') from ok)
  refine ⟨c', rfl, ?_⟩
  cases c' with
  | true => exact ⟨B, F1, ρ1, S1, r, ρ', S', E1, e, KE.after x1 o1 q⟩
  | false => cases e; exact KE.val E1 (fun _ z => z) (KE.after x1 o1 q) (.bl false) fun d h => by cases h
theorem dOrV {rest : List Expr} (ha : PE X a (tE fa)) (hb : PE X (.BoolOp .Or (b :: rest) pos) (tE fb)) : PE X (.BoolOp .Or (a :: b :: rest) pos) (tE (eOr fa fb)) := by
  refine PE.imp (pe_or ha hb) ?_
  rintro σ H Q ⟨B, F, ρ, S, r, ρ', S', E, e, q⟩
  obtain ⟨⟨c', ρ1, S1⟩, e1, e⟩ := bind_some e
  refine ⟨B, F, ρ, S, _, ρ1, S1, E, ofE_some e1, fun v H1 F1 E1 x1 o1 ok fr => ?_⟩
  cases (show Rp F1 v (.bool c') from ok)
  refine ⟨c', rfl, ?_⟩
  cases c' with
  | false => exact ⟨B, F1, ρ1, S1, r, ρ', S', E1, e, KE.after x1 o1 q⟩
  | true => cases e; exact KE.val E1 (fun _ z => z) (KE.after x1 o1 q) (.bl true) fun d h => by cases h
theorem dNotV (ha : PE X a (tE fa)) : PE X (.UnaryOp .Not a pos) (tE (eNot fa)) := by
  refine PE.imp (pe_not ha) ?_
  rintro σ H Q ⟨B, F, ρ, S, r, ρ', S', E, e, q⟩
  obtain ⟨⟨c', ρ1, S1⟩, e1, e⟩ := bind_some e
  cases e
  refine ⟨B, F, ρ, S, _, _, _, E, ofE_some e1, fun v H1 F1 E1 x1 o1 ok fr => ?_⟩
  cases (show Rp F1 v (.bool c') from ok)
  exact ⟨c', rfl, KE.val E1 (fun _ z => z) (KE.after x1 o1 q) (.bl _) fun d h => by cases h⟩
theorem dIf {tc : STt} (hc : PT X c (tT tc)) (ha : PE X a (tE fa)) (hb : PE X b (tE fb)) : PE X (.IfExp c a b pos) (tE (eIf tc fa fb)) := by
  refine PE.imp (pe_ifExp hc ha hb) ?_
  rintro σ H Q ⟨B, F, ρ, S, r, ρ', S', E, e, q⟩
  obtain ⟨⟨c', ρ1, S1⟩, e1, e⟩ := bind_some e
  refine ⟨B, F, ρ, S, c', ρ1, S1, E, e1, fun H1 F1 E1 x1 o1 => ?_⟩
  cases c' with
  | true => exact ⟨B, F1, ρ1, S1, r, ρ', S', E1, e, KE.after x1 o1 q⟩
  | false => exact ⟨B, F1, ρ1, S1, r, ρ', S', E1, e, KE.after x1 o1 q⟩
end
end Dn

set_option Elab.async false
set_option linter.all false
set_option maxRecDepth 100000
set_option maxHeartbeats 4000000
/-! Dn3: slots written; argument lists; what is frozen when it is handed on; displays; built-ins called. -/
namespace Dn
open PySem PySem.Spec PyProof.Rows L2

theorem set_get {α : Type} {l : List α} {i j : Nat} {s t : α} (h : (l.set i s)[j]? = some t) : (i = j ∧ t = s ∧ i < l.length) ∨ (i ≠ j ∧ l[j]? = some t) := by
  by_cases hj : i = j
  · subst hj
    by_cases hl : i < l.length
    · rw [List.getElem?_set_self hl] at h; cases h; exact .inl ⟨rfl, rfl, hl⟩
    · rw [List.getElem?_eq_none (by rw [List.length_set]; omega)] at h; cases h
  · rw [List.getElem?_set_ne hj] at h; exact .inr ⟨hj, h⟩
section
variable {B : Bs} {σ : St} {H F : Hp} {ρ ρ' : Rho} {S S' : Src}
/-- a slot's claim replaced by a weaker or another one -/
theorem DEnv.claim (E : DEnv B σ H F ρ S) {i : Nat} {s : Sl} (ok : SlOk B H F (σ[i]?) s)
    (hs : s.bor = true → ∀ (j : Nat) (t : Sl) (a : Addr), j ≠ i → ρ[j]? = some t → t.bor = true → σ[i]? = some (some (.ref a)) → σ[j]? ≠ some (some (.ref a))) : DEnv B σ H F (ρ.set i s) S := by
  refine ⟨E.sub, E.src, E.fa, E.fc, E.keep, E.mono, E.new, by rw [List.length_set]; exact E.len, fun j t e => ?_, fun j k d t a hjk h1 h2 hb h3 => ?_⟩
  · rcases set_get e with ⟨rfl, rfl, _⟩ | ⟨_, e⟩
    · exact ok
    · exact E.sl j t e
  · rcases set_get h1 with ⟨rfl, q, _⟩ | ⟨hj, h1'⟩
    · rcases set_get h2 with ⟨rfl, _, _⟩ | ⟨hk, h2'⟩
      · exact absurd rfl hjk
      · exact hs (by rw [← q]; rfl) k t a (Ne.symm hjk) h2' hb h3
    · rcases set_get h2 with ⟨rfl, rfl, _⟩ | ⟨hk, h2'⟩
      · intro q
        exact hs hb j _ a hjk h1' rfl q h3
      · exact E.uni j k d t a hjk h1' h2' hb h3
theorem own_set {i : Nat} {s : Sl} (h : ∀ d, s ≠ .ow d) : ∀ b, DOwn B σ (ρ.set i s) b → DOwn B σ ρ b := by
  rintro b (z | z | ⟨j, d, h1, h2⟩)
  · exact .inl z
  · exact .inr (.inl z)
  · rcases set_get h1 with ⟨_, q, _⟩ | ⟨_, q⟩
    · exact absurd q.symm (h d)
    · exact .inr (.inr ⟨j, d, q, h2⟩)
/-- what stands in a slot is frozen -/
theorem DEnv.fzSlot (E : DEnv B σ H F ρ S) {i : Nat} {d : PyData} (h : ρ[i]? = some (.ow d)) : ∃ (a : Addr) (F' : Hp), σ[i]? = some (some (.ref a)) ∧ Rp F' (.ref a) d ∧ DEnv B σ H F' (ρ.set i (.im d)) S ∧ Ext (fun b => b = a) F H F' H := by
  obtain ⟨a, h1, h2, h3, h4, h5, h6⟩ := E.sl i _ h
  obtain ⟨o, e⟩ := h2.there
  have E1 : DEnv B σ H F (ρ.set i .un) S := E.claim (by trivial) (fun h => by cases h)
  have nO : ¬ DOwn B σ (ρ.set i .un) a := by
    rintro (z | z | ⟨j, d', q1, q2⟩)
    · exact h5 z
    · exact h6 z
    · rcases set_get q1 with ⟨_, q, _⟩ | ⟨hj, q⟩
      · cases q
      · exact E.uni i j d _ a hj h q rfl h1 q2
  have E2 := E1.froze e h3 h4 nO
  have rp : Rp (upd F a o) (.ref a) d := h2.rp (fun b x q => by rw [upd_ne (ne_of_none q h3)]; exact q) (upd_same.trans e.symm)
  have E3 := E2.claim (i := i) (s := .im d) ⟨_, h1, rp⟩ (fun h => by cases h)
  rw [List.set_set] at E3
  exact ⟨a, _, h1, rp, E3, ext_froze h3 rfl⟩
/-- the object of an owned slot is changed -/
theorem DEnv.write (E : DEnv B σ H F ρ S) {i : Nat} {d d' : PyData} {a : Addr} {o : HO} (h : ρ[i]? = some (.ow d)) (ha : σ[i]? = some (some (.ref a))) (ob : Ob (upd H a o) F a d') :
    DEnv B σ (upd H a o) F (ρ.set i (.ow d')) S ∧ Ext (DOwn B σ ρ) F H F (upd H a o) ∧ ∀ b, DOwn B σ (ρ.set i (.ow d')) b → DOwn B σ ρ b := by
  obtain ⟨a', h1, h2, h3, h4, h5, h6⟩ := E.sl i _ h
  rw [ha] at h1; cases h1
  have noF : ∀ b x, F b = some x → b ≠ a := fun b x e => ne_of_none e h3
  refine ⟨⟨fun b x e => by rw [upd_ne (noF b x e)]; exact E.sub b x e, ⟨by rw [upd_ne (Ne.symm h5)]; exact E.src.1, by rw [upd_ne (Ne.symm h6)]; exact E.src.2.1, E.src.2.2⟩, E.fa, E.fc, fun b x e n1 n2 => ?_, E.mono, E.new, by rw [List.length_set]; exact E.len, fun j t e => ?_, fun j k d t b hjk q1 q2 hb q3 => ?_⟩, ⟨fun b x e nb => ?_, Sub.refl _, fun b e => .inl e, fun b e => ?_⟩, ?_⟩
  · rw [upd_ne (ne_of_none (E.keep b x e n1 n2 |> fun _ => e) h4)]; exact E.keep b x e n1 n2
  · rcases set_get e with ⟨rfl, rfl, _⟩ | ⟨hj, e⟩
    · exact ⟨a, ha, ob, h3, h4, h5, h6⟩
    · have z := E.sl j t e
      cases t with
      | un => trivial
      | im d => exact z
      | ow dj =>
        obtain ⟨b, w1, w2, w3⟩ := z
        have hb : b ≠ a := fun q => E.uni i j d _ a hj h e rfl ha (by rw [← q]; exact w1)
        exact ⟨b, w1, w2.mono (fun x q => by rw [upd_ne hb]; exact q) (Sub.refl _), w3⟩
      | ro dj =>
        obtain ⟨b, w1, w2, w3⟩ := z
        have hb : b ≠ a := fun q => E.uni i j d _ a hj h e rfl ha (by rw [← q]; exact w1)
        exact ⟨b, w1, w2.mono (fun x q => by rw [upd_ne hb]; exact q) (Sub.refl _), w3⟩
      | so => exact z
  · rcases set_get q1 with ⟨rfl, q, _⟩ | ⟨hj, q1'⟩
    · rcases set_get q2 with ⟨rfl, _, _⟩ | ⟨_, q2'⟩
      · exact absurd rfl hjk
      · exact E.uni i k _ t b hjk h q2' hb q3
    · rcases set_get q2 with ⟨rfl, rfl, _⟩ | ⟨_, q2'⟩
      · exact E.uni j i _ _ b hjk q1' h rfl q3
      · exact E.uni j k _ t b hjk q1' q2' hb q3
  · rw [upd_ne (fun z => nb (by rw [z]; exact .inr (.inr ⟨i, d, h, ha⟩)))]; exact e
  · by_cases hb : b = a
    · subst hb; rw [upd_same] at e; cases e
    · rw [upd_ne hb] at e; exact e
  · rintro b (z | z | ⟨j, e, q1, q2⟩)
    · exact .inl z
    · exact .inr (.inl z)
    · rcases set_get q1 with ⟨rfl, _, _⟩ | ⟨_, q⟩
      · exact .inr (.inr ⟨i, d, h, q2⟩)
      · exact .inr (.inr ⟨j, e, q, q2⟩)
/-- a name is given a value: the value and its claim -/
theorem DEnv.store (E : DEnv B σ H F ρ S) {i : Nat} {v : V} {s : Sl} (ok : SlOk B H F (some (some v)) s)
    (hs : s.bor = true → ∀ (j : Nat) (t : Sl) (a : Addr), j ≠ i → ρ[j]? = some t → t.bor = true → v = .ref a → σ[j]? ≠ some (some (.ref a))) : DEnv B (σ.set i (some v)) H F (ρ.set i s) S := by
  refine ⟨E.sub, E.src, E.fa, E.fc, E.keep, E.mono, E.new, by rw [List.length_set, List.length_set]; exact E.len, fun j t e => ?_, fun j k d t a hjk h1 h2 hb h3 h4 => ?_⟩
  · rcases set_get e with ⟨rfl, rfl, hl⟩ | ⟨hj, e⟩
    · rw [List.getElem?_set_self (Nat.lt_of_lt_of_le hl E.len)]; exact ok
    · rw [List.getElem?_set_ne hj]; exact E.sl j t e
  · rcases set_get h1 with ⟨rfl, q, hl⟩ | ⟨hj, h1'⟩
    · rw [List.getElem?_set_self (Nat.lt_of_lt_of_le hl E.len)] at h3
      cases h3
      rcases set_get h2 with ⟨rfl, _, _⟩ | ⟨hk, h2'⟩
      · exact hjk rfl
      · rw [List.getElem?_set_ne hk] at h4
        exact hs (by rw [← q]; rfl) k t a (Ne.symm hk) h2' hb rfl h4
    · rw [List.getElem?_set_ne hj] at h3
      rcases set_get h2 with ⟨rfl, rfl, hl⟩ | ⟨hk, h2'⟩
      · rw [List.getElem?_set_self (Nat.lt_of_lt_of_le hl E.len)] at h4
        cases h4
        exact hs hb j _ a (Ne.symm hj) h1' rfl rfl h3
      · rw [List.getElem?_set_ne hk] at h4
        exact E.uni j k d t a hjk h1' h2' hb h3 h4
end

/-! ### handed on: frozen -/
/-- what a value is when it is handed on, and the slots behind it -/
def fz (ρ : Rho) : Vl → Option (Sl × Rho)
  | .im d => some (.im d, ρ)
  | .ow d => some (.im d, ρ)
  | .bo i => match ρ[i]? with
    | some (.im d) => some (.im d, ρ)
    | some (.ow d) => some (.im d, ρ.set i (.im d))
    | _ => none
  | .so => some (.so, ρ)
def fzs : Rho → List Vl → Option (List Sl × Rho)
  | ρ, [] => some ([], ρ)
  | ρ, r :: rs => do
    let (s, ρ1) ← fz ρ r
    let (ss, ρ2) ← fzs ρ1 rs
    some (s :: ss, ρ2)
def ArgOk (B : Bs) (F : Hp) (v : V) : Sl → Prop
  | .im d => Rp F v d
  | .so => v = .ref B.a0
  | _ => False
inductive ArgsOk (B : Bs) (F : Hp) : List V → List Sl → Prop
  | nil : ArgsOk B F [] []
  | cons {v : V} {s : Sl} {vs : List V} {ss : List Sl} : ArgOk B F v s → ArgsOk B F vs ss → ArgsOk B F (v :: vs) (s :: ss)
theorem ArgOk.mono {B : Bs} {F F' : Hp} {v : V} {s : Sl} (h : ArgOk B F v s) (x : Sub F F') : ArgOk B F' v s := by
  cases s with
  | im d => exact Rp.mono x h
  | so => exact h
  | _ => exact h.elim
section
variable {B : Bs} {σ : St} {H F : Hp} {ρ ρ' : Rho} {S S' : Src}
/-- what freezing v touches -/
def Fzm (B : Bs) (σ : St) (ρ : Rho) (v : V) (r : Vl) (b : Addr) : Prop := (∃ d, r = .ow d ∧ v = .ref b) ∨ DOwn B σ ρ b
theorem fz_ok (E : DEnv B σ H F ρ S) {v : V} {r : Vl} {s : Sl} (ok : VOk B σ H F ρ v r) (e : fz ρ r = some (s, ρ')) :
    ∃ F', ArgOk B F' v s ∧ DEnv B σ H F' ρ' S ∧ Ext (Fzm B σ ρ v r) F H F' H ∧ ∀ b, DOwn B σ ρ' b → DOwn B σ ρ b := by
  cases r with
  | im d => cases e; exact ⟨F, ok, E, Ext.refl _ _ _, fun _ z => z⟩
  | ow d =>
    cases e
    obtain ⟨F', h1, h2, h3⟩ := ok.fz E
    exact ⟨F', h1, h2, h3.weak fun b z => .inl ⟨d, rfl, z⟩, fun _ z => z⟩
  | bo i =>
    have e : (match ρ[i]? with
      | some (.im d) => some (Sl.im d, ρ)
      | some (.ow d) => some (.im d, ρ.set i (.im d))
      | _ => none) = some (s, ρ') := e
    cases q : ρ[i]? with
    | none => rw [q] at e; cases e
    | some t =>
      rw [q] at e
      cases t with
      | im d =>
        cases e
        obtain ⟨w, h1, h2⟩ := E.sl i _ q
        have ok : σ[i]? = some (some v) := ok
        rw [ok] at h1; cases h1
        exact ⟨F, h2, E, Ext.refl _ _ _, fun _ z => z⟩
      | ow d =>
        cases e
        obtain ⟨a, F', h1, h2, h3, h4⟩ := E.fzSlot q
        have ok : σ[i]? = some (some v) := ok
        rw [ok] at h1; cases h1
        exact ⟨F', h2, h3, h4.weak fun b z => .inr (by rw [z]; exact .inr (.inr ⟨i, d, q, ok⟩)), own_set fun _ z => by cases z⟩
      | _ => cases e
  | so => cases e; exact ⟨F, ok, E, Ext.refl _ _ _, fun _ z => z⟩
theorem VsOk.at {vs : List V} {rs : List Vl} (h : VsOk B σ H F ρ vs rs) {j : Nat} {r : Vl} (e : rs[j]? = some r) : ∃ v, vs[j]? = some v ∧ VOk B σ H F ρ v r := by
  induction h generalizing j with
  | nil => simp at e
  | cons ok _ _ ih =>
    cases j with
    | zero => simp at e; subst e; exact ⟨_, rfl, ok⟩
    | succ j => obtain ⟨v, h1, h2⟩ := ih (j := j) (by simpa using e); exact ⟨v, by simpa using h1, h2⟩
theorem VsOk.stay {H' F' : Hp} {vs : List V} {rs : List Vl} {M : Addr → Prop} (h : VsOk B σ H F ρ vs rs) (x : Ext M F H F' H') (ho : ∀ b, DOwn B σ ρ' b → DOwn B σ ρ b)
    (hM : ∀ (j : Nat) a d, rs[j]? = some (.ow d) → vs[j]? = some (.ref a) → ¬ M a) : VsOk B σ H' F' ρ' vs rs := by
  induction h with
  | nil => exact .nil
  | cons ok ne t ih =>
    refine .cons (ok.stay x (fun a d h1 h2 => hM 0 a d (by rw [h1]; rfl) (by rw [h2]; rfl)) ho) ne (ih fun j a d h1 h2 => hM (j + 1) a d (by simpa using h1) (by simpa using h2))
/-- what freezing all touches -/
def Fzs (B : Bs) (σ : St) (ρ : Rho) (vs : List V) (rs : List Vl) (b : Addr) : Prop := (∃ (j : Nat) (d : PyData), rs[j]? = some (.ow d) ∧ vs[j]? = some (.ref b)) ∨ DOwn B σ ρ b
theorem fzs_ok {rs : List Vl} : ∀ {vs : List V} {F : Hp} {ρ ρ' : Rho} {ss : List Sl}, DEnv B σ H F ρ S → VsOk B σ H F ρ vs rs → fzs ρ rs = some (ss, ρ') →
    ∃ F', ArgsOk B F' vs ss ∧ DEnv B σ H F' ρ' S ∧ Ext (Fzs B σ ρ vs rs) F H F' H ∧ ∀ b, DOwn B σ ρ' b → DOwn B σ ρ b := by
  induction rs with
  | nil =>
    intro vs F ρ ρ' ss E ok e
    cases ok
    cases e
    exact ⟨F, .nil, E, Ext.refl _ _ _, fun _ z => z⟩
  | cons r rs ih =>
    intro vs F ρ ρ' ss E ok e
    cases ok with
    | cons o1 ne ot =>
      rename_i v vs
      obtain ⟨⟨s, ρ1⟩, e1, e⟩ := bind_some e
      obtain ⟨⟨st, ρ2⟩, e2, e⟩ := bind_some e
      cases e
      obtain ⟨F1, a1, E1, x1, w1⟩ := fz_ok E o1 e1
      have ot' : VsOk B σ H F1 ρ1 vs rs := by
        refine ot.stay x1 w1 fun j a d h1 h2 m => ?_
        rcases m with ⟨d', hr, hv⟩ | m
        · exact ne d' a hr hv j d h1 h2
        · obtain ⟨u, q1, q2⟩ := ot.at h1
          rw [h2] at q1; cases q1
          obtain ⟨a', q3, _, _, _, q4⟩ := q2
          cases q3
          exact q4 m
      obtain ⟨F2, a2, E2, x2, w2⟩ := ih E1 ot' e2
      refine ⟨F2, .cons (a1.mono x2.mono) a2, E2, ?_, fun b z => w1 b (w2 b z)⟩
      refine Ext.trans (x1.weak (M' := Fzs B σ ρ (v :: vs) (r :: rs)) fun b z => ?_) x2 fun b z => ?_
      · rcases z with ⟨d, hr, hv⟩ | z
        · exact .inl ⟨0, d, by rw [hr]; rfl, by rw [hv]; rfl⟩
        · exact .inr z
      · rcases z with ⟨j, d, h1, h2⟩ | z
        · exact .inl (.inl ⟨j + 1, d, by simpa using h1, by simpa using h2⟩)
        · exact .inl (.inr (w1 b z))
/-- frozen, all data -/
def imsOf : List Sl → Option (List PyData)
  | [] => some []
  | .im d :: ss => do
    let ds ← imsOf ss
    some (d :: ds)
  | _ :: _ => none
theorem ArgsOk.ims {F : Hp} {vs : List V} {ss : List Sl} (h : ArgsOk B F vs ss) : ∀ {ds : List PyData}, imsOf ss = some ds → RpA F vs ds := by
  induction h with
  | nil => intro ds e; cases e; exact .nil
  | cons a _ ih =>
    rename_i s _ ss _
    intro ds e
    cases s with
    | im d =>
      obtain ⟨es, e1, e⟩ := bind_some e
      cases e
      exact .cons a (ih e1)
    | _ => cases e
end

/-! ### argument lists -/
def aNil : SA := fun ρ S => some ([], ρ, S)
def aCons (f : SE) (g : SA) : SA := fun ρ S => do
  let (r, ρ1, S1) ← f ρ S
  let (rs, ρ2, S2) ← g ρ1 S1
  some (r :: rs, ρ2, S2)
/-- the items of a list or tuple -/
def itemsOf : PyData → Option (List PyData)
  | .list ds => some ds
  | .tuple ds => some ds
  | _ => none
def aStar (f : SE) (g : SA) : SA := fun ρ S => do
  let (r, ρ1, S1) ← f ρ S
  let d ← datOf ρ1 r
  let ds ← itemsOf d
  let (rs, ρ2, S2) ← g ρ1 S1
  some (ds.map Vl.im ++ rs, ρ2, S2)
theorem Rd1.items {H F : Hp} {v : V} {d : PyData} {ds : List PyData} (s : Sub F H) (h : Rd1 H F v d) (e : itemsOf d = some ds) : ∃ a xs, v = .ref a ∧ (H a = some (.tup xs) ∨ H a = some (.lst xs)) ∧ xs.length ≤ sizeLine ∧ RpA F xs ds := by
  rcases h with h | ⟨a, rfl, h⟩
  · cases h with
    | lst h z r => cases e; exact ⟨_, _, rfl, .inr (s _ _ h), z, r⟩
    | tup h z r => cases e; exact ⟨_, _, rfl, .inl (s _ _ h), z, r⟩
    | _ => cases e
  · cases d with
    | list es => cases e; obtain ⟨xs, h1, h2, h3⟩ := h; exact ⟨a, xs, rfl, .inr h1, h2, h3⟩
    | dict es => cases e
    | _ => exact h.elim
section
variable {X : Cx} {e : Expr} {es : List Expr} {f : SE} {g : SA} {pos : Pos}
theorem dA0 : PA X [] (tA aNil) := by
  refine PA.imp pa_nil ?_
  rintro σ H Q ⟨B, F, ρ, S, rs, ρ', S', E, e, q⟩
  cases e
  exact q [] H F E (Ext.refl _ _ _) (fun _ z => z) .nil fun j d a h => by simp at h
theorem ims_ok {B : Bs} {σ : St} {H F : Hp} {ρ : Rho} : ∀ {xs : List V} {ds : List PyData} {vs : List V} {rs : List Vl}, RpA F xs ds → VsOk B σ H F ρ vs rs → VsOk B σ H F ρ (xs ++ vs) (ds.map Vl.im ++ rs)
  | _, _, _, _, .nil, h => h
  | _, _, _, _, .cons a r, h => .cons a (fun d a h => by cases h) (ims_ok r h)
theorem dA (ha : PE X e (tE f)) (hr : PA X es (tA g)) (hs : starEach (e :: es) X.env = (false, eval e X.env) :: starEach es X.env := by rfl) : PA X (e :: es) (tA (aCons f g)) := by
  refine PA.imp (pa_cons ha hr hs) ?_
  rintro σ H Q ⟨B, F, ρ, S, rs, ρ', S', E, e, q⟩
  obtain ⟨⟨r, ρ1, S1⟩, e1, e⟩ := bind_some e
  obtain ⟨⟨rt, ρ2, S2⟩, e2, e⟩ := bind_some e
  cases e
  refine ⟨B, F, ρ, S, r, ρ1, S1, E, e1, fun v H1 F1 E1 x1 o1 ok1 fr1 => ⟨B, F1, ρ1, S1, rt, _, _, E1, e2, fun vs H2 F2 E2 x2 o2 ok2 fr2 => ?_⟩⟩
  refine q (v :: vs) H2 F2 E2 (x1.trans x2 fun b z => .inl (o1 b z)) (fun b z => o1 b (o2 b z)) (.cons (ok1.stay x2 (fun a d h1 h2 m => ?_) o2) (fun d a h1 h2 j e' h3 h4 => ?_) ok2) fun j d a h1 h2 => ?_
  · subst h1
    obtain ⟨a', h3, _, _, _, h5⟩ := ok1
    rw [h2] at h3; cases h3
    exact h5 m
  · have z := fr2 j e' a h3 h4
    subst h1
    obtain ⟨a', h5, h6, _⟩ := ok1
    rw [h2] at h5; cases h5
    obtain ⟨o, h7⟩ := h6.there
    rw [z] at h7; cases h7
  · cases j with
    | zero => simp at h1 h2; exact fr1 d a h1 h2
    | succ j => exact x1.live a (fr2 j d a (by simpa using h1) (by simpa using h2))
theorem dAS {p : Pos} (ha : PE X e (tE f)) (hr : PA X es (tA g)) (hs : starEach (.Starred e p :: es) X.env = (true, eval e X.env) :: starEach es X.env := by rfl) : PA X (.Starred e p :: es) (tA (aStar f g)) := by
  refine PA.imp (StX.pa_star ha hr hs) ?_
  rintro σ H Q ⟨B, F, ρ, S, rs, ρ', S', E, e, q⟩
  obtain ⟨⟨r, ρ1, S1⟩, e1, e⟩ := bind_some e
  obtain ⟨d, e2, e⟩ := bind_some e
  obtain ⟨ds, e3, e⟩ := bind_some e
  obtain ⟨⟨rt, ρ2, S2⟩, e4, e⟩ := bind_some e
  cases e
  refine ⟨B, F, ρ, S, r, ρ1, S1, E, e1, fun v H1 F1 E1 x1 o1 ok1 fr1 => ?_⟩
  obtain ⟨a, xs, rfl, hh, hz, hr⟩ := (ok1.rd E1 e2).items E1.sub e3
  refine ⟨a, xs, rfl, ?_, ?_⟩
  · rcases hh with hh | hh
    · exact .inl (SqT.of hh)
    · exact .inr (SqL.of hh)
  · refine ⟨B, F1, ρ1, S1, rt, _, _, E1, e4, fun vs H2 F2 E2 x2 o2 ok2 fr2 => ?_⟩
    refine q (xs ++ vs) H2 F2 E2 (x1.trans x2 fun b z => .inl (o1 b z)) (fun b z => o1 b (o2 b z)) (ims_ok (hr.mono x2.mono) ok2) fun j d a h1 h2 => ?_
    have hl := hr.len
    by_cases hj : j < ds.length
    · rw [List.getElem?_append_left (by simpa using hj), List.getElem?_map] at h1
      cases q : ds[j]? with
      | none => rw [q] at h1; cases h1
      | some u => rw [q] at h1; cases h1
    · rw [List.getElem?_append_right (by simpa using hj)] at h1
      rw [List.getElem?_append_right (by omega)] at h2
      refine x1.live a (fr2 (j - ds.length) d a (by simpa using h1) (by rw [← hl]; exact h2))
end

/-! ### displays -/
def eTup (g : SA) : SE := fun ρ S => do
  let (rs, ρ1, S1) ← g ρ S
  let (ss, ρ2) ← fzs ρ1 rs
  let ds ← imsOf ss
  if ds.length ≤ sizeLine then some (.im (.tuple ds), ρ2, S1) else none
def eLst (g : SA) : SE := fun ρ S => do
  let (rs, ρ1, S1) ← g ρ S
  let (ss, ρ2) ← fzs ρ1 rs
  let ds ← imsOf ss
  if ds.length ≤ sizeLine then some (.ow (.list ds), ρ2, S1) else none
/-- arguments evaluated and handed on -/
theorem args_imp {g : SA} {B : Bs} {σ : St} {H F : Hp} {ρ ρ1 ρ2 : Rho} {S S1 : Src} {rs : List Vl} {ss : List Sl} {R : List V → Hp → Prop} (E : DEnv B σ H F ρ S) (e1 : g ρ S = some (rs, ρ1, S1)) (e2 : fzs ρ1 rs = some (ss, ρ2))
    (k : ∀ vs H1 F2, DEnv B σ H1 F2 ρ2 S1 → Ext (DOwn B σ ρ) F H F2 H1 → (∀ b, DOwn B σ ρ2 b → DOwn B σ ρ b) → ArgsOk B F2 vs ss → R vs H1) : tA g σ H R := by
  refine ⟨B, F, ρ, S, rs, ρ1, S1, E, e1, fun vs H1 F1 E1 x1 o1 ok1 fr1 => ?_⟩
  obtain ⟨F2, a2, E2, x2, w2⟩ := fzs_ok E1 ok1 e2
  refine k vs H1 F2 E2 (x1.trans x2 fun b z => ?_) (fun b z => o1 b (w2 b z)) a2
  rcases z with ⟨j, d, h1, h2⟩ | z
  · exact .inr (fr1 j d b h1 h2)
  · exact .inl (o1 b z)
section
variable {X : Cx} {es : List Expr} {g : SA} {pos : Pos}
theorem dTup {k : Nat} (h : PA X es (tA g)) : PE X (.Tuple es k pos) (tE (eTup g)) := by
  refine PE.imp (pe_tup h) ?_
  rintro σ H Q ⟨B, F, ρ, S, r, ρ', S', E, e, q⟩
  obtain ⟨⟨rs, ρ1, S1⟩, e1, e⟩ := bind_some e
  obtain ⟨⟨ss, ρ2⟩, e2, e⟩ := bind_some e
  obtain ⟨ds, e3, e⟩ := bind_some e
  by_cases hz : ds.length ≤ sizeLine
  · replace e : (if ds.length ≤ sizeLine then some (Vl.im (.tuple ds), ρ2, S1) else none) = some (r, ρ', S') := e
    rw [if_pos hz] at e
    cases e
    refine args_imp E e1 e2 fun vs H1 F2 E2 x2 o2 a2 => ?_
    have ra := a2.ims e3
    have hl := ra.len
    exact ⟨by omega, KE.tup E2 (KE.after x2 o2 q) ra (by omega)⟩
  · replace e : (if ds.length ≤ sizeLine then some (Vl.im (.tuple ds), ρ2, S1) else none) = some (r, ρ', S') := e
    rw [if_neg hz] at e; cases e
theorem dLst (h : PA X es (tA g)) : PE X (.List es pos) (tE (eLst g)) := by
  refine PE.imp (pe_lst h) ?_
  rintro σ H Q ⟨B, F, ρ, S, r, ρ', S', E, e, q⟩
  obtain ⟨⟨rs, ρ1, S1⟩, e1, e⟩ := bind_some e
  obtain ⟨⟨ss, ρ2⟩, e2, e⟩ := bind_some e
  obtain ⟨ds, e3, e⟩ := bind_some e
  replace e : (if ds.length ≤ sizeLine then some (Vl.ow (.list ds), ρ2, S1) else none) = some (r, ρ', S') := e
  by_cases hz : ds.length ≤ sizeLine
  · rw [if_pos hz] at e
    cases e
    refine args_imp E e1 e2 fun vs H1 F2 E2 x2 o2 a2 => ?_
    have ra := a2.ims e3
    have hl := ra.len
    exact ⟨by omega, KE.lst E2 (KE.after x2 o2 q) ra (by omega)⟩
  · rw [if_neg hz] at e; cases e
end

/-! ### built-in functions and types, called -/
def datsOf (ρ : Rho) : List Vl → Option (List PyData)
  | [] => some []
  | r :: rs => do
    let d ← datOf ρ r
    let ds ← datsOf ρ rs
    some (d :: ds)
inductive RdA (H F : Hp) : List V → List PyData → Prop
  | nil : RdA H F [] []
  | cons {v : V} {d : PyData} {vs : List V} {ds : List PyData} : Rd1 H F v d → RdA H F vs ds → RdA H F (v :: vs) (d :: ds)
theorem VsOk.rd {B : Bs} {σ : St} {H F : Hp} {ρ : Rho} {S : Src} {vs : List V} {rs : List Vl} (E : DEnv B σ H F ρ S) (h : VsOk B σ H F ρ vs rs) : ∀ {ds : List PyData}, datsOf ρ rs = some ds → RdA H F vs ds := by
  induction h with
  | nil => intro ds e; cases e; exact .nil
  | cons ok _ _ ih =>
    intro ds e
    obtain ⟨d, e1, e⟩ := bind_some e
    obtain ⟨dt, e2, e⟩ := bind_some e
    cases e
    exact .cons (ok.rd E e1) (ih e2)
def eB (g : List PyData → Option Rs) (a : SA) : SE := fun ρ S => do
  let (rs, ρ1, S1) ← a ρ S
  let ds ← datsOf ρ1 rs
  let r ← g ds
  some (r.vl, ρ1, S1)
structure OpN (r : List V → Hp → VK → Prop) (g : List PyData → Option Rs) : Prop where
  run : ∀ (H F : Hp) (vs : List V) (ds : List PyData) (o : Rs) (Q : VK), Sub F H → RdA H F vs ds → g ds = some o → Res H F o Q → r vs H Q
theorem call_imp {r : List V → Hp → VK → Prop} {g : List PyData → Option Rs} {a : SA} (ho : OpN r g) {σ : St} {H : Hp} {Q : VK} (q : tE (eB g a) σ H Q) : tA a σ H fun vs H1 => r vs H1 Q := by
  obtain ⟨B, F, ρ, S, o, ρ', S', E, e, k⟩ := q
  obtain ⟨⟨rs, ρ1, S1⟩, e1, e⟩ := bind_some e
  obtain ⟨ds, e2, e⟩ := bind_some e
  obtain ⟨o', e3, e⟩ := bind_some e
  cases e
  refine ⟨B, F, ρ, S, rs, _, _, E, e1, fun vs H1 F1 E1 x1 o1 ok1 fr1 => ?_⟩
  exact ho.run H1 F1 vs ds _ Q E1.sub (ok1.rd E1 e2) e3 (Res.of E1 (KE.after x1 o1 k))
section
variable {X : Cx} {x : Str} {p pos : Pos} {e : Expr} {es : List Expr} {a : SA} {id T : String} {r : List V → Hp → VK → Prop} {g : List PyData → Option Rs}
theorem dB (hc : CallR X (.builtin id) r) (ho : OpN r g) (hg : Gl X x) (hm : X.mg x = none) (hv : bootBuiltins x = some (.builtin id)) (ha : PA X (e :: es) (tA a)) (hn : x ≠ "__name__" := by decide) (hdb : (x == ("__debug__" : Str)) = false := by decide)
    (he : starEach (e :: es) X.env = (false, eval e X.env) :: starEach es X.env := by rfl) (hpl : (backTo pos (starEach es X.env)).any (·.1) = false := by rfl) : PE X (.Call (.Name x p) (e :: es) [] pos) (tE (eB g a)) :=
  PE.imp (pe_callB hc hg hm hv ha hn hdb he hpl) fun _ _ _ q => call_imp ho q
theorem dBT (hc : CallR X (.type T) r) (ho : OpN r g) (hg : Gl X x) (hm : X.mg x = none) (hv : bootBuiltins x = some (.type T)) (ha : PA X (e :: es) (tA a)) (hn : x ≠ "__name__" := by decide) (hdb : (x == ("__debug__" : Str)) = false := by decide)
    (he : starEach (e :: es) X.env = (false, eval e X.env) :: starEach es X.env := by rfl) (hpl : (backTo pos (starEach es X.env)).any (·.1) = false := by rfl) : PE X (.Call (.Name x p) (e :: es) [] pos) (tE (eB g a)) :=
  PE.imp (pe_callTy hc hg hm hv ha hn hdb he hpl) fun _ _ _ q => call_imp ho q
end
end Dn

set_option Elab.async false
set_option linter.all false
set_option maxRecDepth 100000
set_option maxHeartbeats 4000000
/-! Dn4: the operations: what each does to data. -/
namespace Dn
open PySem PySem.Spec PyProof.Rows L2

section
variable {H F : Hp} {v : V}
theorem Rd1.int {i : Int} (h : Rd1 H F v (.int i)) : v = .int i := by
  rcases h with h | ⟨a, rfl, h⟩
  · cases h; rfl
  · exact h.elim
theorem Rd1.bl {i : Bool} (h : Rd1 H F v (.bool i)) : v = .bl i := by
  rcases h with h | ⟨a, rfl, h⟩
  · cases h; rfl
  · exact h.elim
theorem Rd1.str {i : Str} (h : Rd1 H F v (.str i)) : v = .str i := by
  rcases h with h | ⟨a, rfl, h⟩
  · cases h; rfl
  · exact h.elim
theorem Rd1.non (h : Rd1 H F v .none) : v = .non := by
  rcases h with h | ⟨a, rfl, h⟩
  · cases h; rfl
  · exact h.elim
theorem Rd1.lst {ds : List PyData} (s : Sub F H) (h : Rd1 H F v (.list ds)) : ∃ a xs, v = .ref a ∧ H a = some (.lst xs) ∧ xs.length ≤ sizeLine ∧ RpA F xs ds := by
  rcases h with h | ⟨a, rfl, h⟩
  · cases h with
    | lst h z r => exact ⟨_, _, rfl, s _ _ h, z, r⟩
  · obtain ⟨xs, h1, h2, h3⟩ := h; exact ⟨a, xs, rfl, h1, h2, h3⟩
theorem Rd1.tup {ds : List PyData} (s : Sub F H) (h : Rd1 H F v (.tuple ds)) : ∃ a xs, v = .ref a ∧ H a = some (.tup xs) ∧ xs.length ≤ sizeLine ∧ RpA F xs ds := by
  rcases h with h | ⟨a, rfl, h⟩
  · cases h with
    | tup h z r => exact ⟨_, _, rfl, s _ _ h, z, r⟩
  · exact h.elim
theorem Rd1.isNon {d : PyData} (h : Rd1 H F v d) : decide (v = .non) = (match d with | .none => true | _ => false) := by
  rcases h with h | ⟨a, rfl, h⟩
  · cases h <;> simp
  · cases d <;> first | exact h.elim | simp
end

/-! ### data without dicts, as HandS reads it -/
mutual
theorem Rp.dp {K : PySem.W.Frag} {F H : Hp} (s : Sub F H) : ∀ {v : V} {d : PyData}, Rp F v d → d.canLay0 = true → Dp K H v d
  | _, _, .non, _ => .non
  | _, _, .bl b, _ => .bl b
  | _, _, .int i, _ => .int i
  | _, _, .str x, _ => .str x
  | _, _, .lst h _ r, c => .lst (SqL.of (s _ _ h)) (RpA.dp s r (by simpa [PyData.canLay0] using c))
  | _, _, .tup h _ r, c => .tup (SqT.of (s _ _ h)) (RpA.dp s r (by simpa [PyData.canLay0] using c))
  | _, _, .dk _ _, c => by simp [PyData.canLay0] at c
  | _, _, .dt _ _ _, c => by simp [PyData.canLay0] at c
theorem RpA.dp {K : PySem.W.Frag} {F H : Hp} (s : Sub F H) : ∀ {v : List V} {d : List PyData}, RpA F v d → PyData.canLayAll0 d = true → DpAll K H v d
  | _, _, .nil, _ => .nil
  | _, _, .cons h r, c => by
    have c' := c
    rw [PyData.canLayAll0, Bool.and_eq_true] at c'
    exact .cons (Rp.dp s h c'.1) (RpA.dp s r c'.2)
end
theorem Rd1.dp {K : PySem.W.Frag} {F H : Hp} (s : Sub F H) {v : V} {d : PyData} (h : Rd1 H F v d) (c : d.canLay0 = true) : Dp K H v d := by
  rcases h with h | ⟨a, rfl, h⟩
  · exact h.dp s c
  · cases d with
    | list ds => obtain ⟨xs, h1, h2, h3⟩ := h; exact .lst (SqL.of h1) (h3.dp s (by simpa [PyData.canLay0] using c))
    | dict ds => simp [PyData.canLay0] at c
    | _ => exact h.elim

/-! ### ints -/
def chk (c : Prop) [Decidable c] (r : Rs) : Option Rs := if c then some r else none
theorem chk_some {c : Prop} [Decidable c] {r o : Rs} (h : chk c r = some o) : c ∧ r = o := by
  unfold chk at h
  by_cases q : c
  · rw [if_pos q] at h; exact ⟨q, Option.some.inj h⟩
  · rw [if_neg q] at h; cases h
def gI (g : Int → Int → Option Rs) : PyData → PyData → Option Rs
  | .int i, .int j => g i j
  | _, _ => none
theorem gI_some {g : Int → Int → Option Rs} {d e : PyData} {o : Rs} (h : gI g d e = some o) : ∃ i j, d = .int i ∧ e = .int j ∧ g i j = some o := by
  cases d <;> cases e <;> first | cases h | exact ⟨_, _, rfl, rfl, h⟩
/-- an operation on ints under a condition -/
theorem op2I {C : Int → Int → Prop} [∀ i j, Decidable (C i j)] {f : Int → Int → Int} : Op2 (rI C fun i j => .int (f i j)) (gI fun i j => chk (C i j) (.im (.int (f i j)))) where
  run := fun H F v w d e o Q s hv hw h r => by
    obtain ⟨i, j, rfl, rfl, h⟩ := gI_some h
    obtain ⟨c, rfl⟩ := chk_some h
    exact ⟨i, j, hv.int, hw.int, c, r.1 _ (.int _)⟩
theorem op2I0 {f : Int → Int → Int} : Op2 (rI0 fun i j => .int (f i j)) (gI fun i j => some (.im (.int (f i j)))) where
  run := fun H F v w d e o Q s hv hw h r => by
    obtain ⟨i, j, rfl, rfl, h⟩ := gI_some h
    cases h
    exact ⟨i, j, hv.int, hw.int, r.1 _ (.int _)⟩
theorem op2B0 {f : Int → Int → Bool} : Op2 (rI0 fun i j => .bl (f i j)) (gI fun i j => some (.im (.bool (f i j)))) where
  run := fun H F v w d e o Q s hv hw h r => by
    obtain ⟨i, j, rfl, rfl, h⟩ := gI_some h
    cases h
    exact ⟨i, j, hv.int, hw.int, r.1 _ (.bl _)⟩
/-- one rule or another -/
def orG (g g' : PyData → PyData → Option Rs) : PyData → PyData → Option Rs := fun d e => (g d e).or (g' d e)
theorem Op2.or {r r' : R2} {g g' : PyData → PyData → Option Rs} (h : Op2 r g) (h' : Op2 r' g') : Op2 (fun x y H Q => r x y H Q ∨ r' x y H Q) (orG g g') where
  run := fun H F v w d e o Q s hv hw q rr => by
    unfold orG at q
    cases z : g d e with
    | some u => rw [z, Option.some_or] at q; cases q; exact .inl (h.run H F v w d e _ Q s hv hw z rr)
    | none => rw [z, Option.none_or] at q; exact .inr (h'.run H F v w d e o Q s hv hw q rr)
theorem Op2.conv {r : R2} {g g' : PyData → PyData → Option Rs} (h : Op2 r g) (e : ∀ a b, g' a b = g a b) : Op2 r g' where
  run := fun H F v w d e' o Q s hv hw q rr => h.run H F v w d e' o Q s hv hw (by rw [← e]; exact q) rr

/-! ### + of tuples, lists -/
def gCatT : PyData → PyData → Option Rs
  | .tuple ds, .tuple es => chk (ds.length + es.length ≤ sizeLine) (.im (.tuple (ds ++ es)))
  | _, _ => none
theorem gCatT_some {d e : PyData} {o : Rs} (h : gCatT d e = some o) : ∃ ds es, d = .tuple ds ∧ e = .tuple es ∧ ds.length + es.length ≤ sizeLine ∧ o = .im (.tuple (ds ++ es)) := by
  cases d <;> cases e <;> first | cases h; done | (obtain ⟨c, q⟩ := chk_some h; exact ⟨_, _, rfl, rfl, c, q.symm⟩)
def gCatL : PyData → PyData → Option Rs
  | .list ds, .list es => chk (ds.length + es.length ≤ sizeLine) (.ow (.list (ds ++ es)))
  | _, _ => none
theorem gCatL_some {d e : PyData} {o : Rs} (h : gCatL d e = some o) : ∃ ds es, d = .list ds ∧ e = .list es ∧ ds.length + es.length ≤ sizeLine ∧ o = .ow (.list (ds ++ es)) := by
  cases d <;> cases e <;> first | cases h; done | (obtain ⟨c, q⟩ := chk_some h; exact ⟨_, _, rfl, rfl, c, q.symm⟩)
theorem op2CatL : Op2 rCat gCatL where
  run := fun H F v w d e o Q s hv hw h r => by
    obtain ⟨ds, es, rfl, rfl, c, rfl⟩ := gCatL_some h
    obtain ⟨a, xs, rfl, h1, z1, r1⟩ := hv.lst s
    obtain ⟨b, ys, rfl, h2, z2, r2⟩ := hw.lst s
    have l1 := r1.len
    have l2 := r2.len
    exact ⟨a, b, xs, ys, rfl, rfl, h1, h2, by omega, Res.lst r (r1.app r2) (by rw [List.length_append]; omega)⟩
section
variable {X : Cx}
theorem op2CatT {K : PySem.W.Frag} : Op2 (rCatA K) gCatT where
  run := fun H F v w d e o Q s hv hw h r => by
    obtain ⟨ds, es, rfl, rfl, c, rfl⟩ := gCatT_some h
    obtain ⟨a, xs, rfl, h1, z1, r1⟩ := hv.tup s
    obtain ⟨b, ys, rfl, h2, z2, r2⟩ := hw.tup s
    have l1 := r1.len
    have l2 := r2.len
    have hv' : Rp F (.ref a) (.tuple ds) := by
      rcases hv with q | ⟨_, _, q⟩
      · exact q
      · exact q.elim
    have hw' : Rp F (.ref b) (.tuple es) := by
      rcases hw with q | ⟨_, _, q⟩
      · exact q
      · exact q.elim
    refine ⟨a, b, xs, ys, rfl, rfl, SqT.of h1, SqT.of h2, by omega, fun e => ?_, fun _ e => ?_, fun _ _ => Res.tup r (r1.app r2) (by rw [List.length_append]; omega)⟩
    · subst e
      cases r1
      exact r.val hw'
    · subst e
      cases r2
      rw [List.append_nil] at r
      exact r.val hv'
/-- x + y -/
def gAdd : PyData → PyData → Option Rs
  | .int i, .int j => some (.im (.int (i + j)))
  | .tuple ds, .tuple es => chk (ds.length + es.length ≤ sizeLine) (.im (.tuple (ds ++ es)))
  | .list ds, .list es => chk (ds.length + es.length ≤ sizeLine) (.ow (.list (ds ++ es)))
  | .str x, .str y => chk (x.length + y.length ≤ sizeLine) (.im (.str (x ++ y)))
  | _, _ => none
def gCatS : PyData → PyData → Option Rs
  | .str x, .str y => chk (x.length + y.length ≤ sizeLine) (.im (.str (x ++ y)))
  | _, _ => none
theorem op2CatS : Op2 (fun x y H Q => ∃ i j, x = .str i ∧ y = .str j ∧ i.length + j.length ≤ sizeLine ∧ Q (.str (i ++ j)) H) gCatS where
  run := fun H F v w d e o Q s hv hw h r => by
    cases d <;> cases e <;> first
      | cases h; done
      | (obtain ⟨c, rfl⟩ := chk_some h
         exact ⟨_, _, hv.str, hw.str, c, r.1 _ (.str _)⟩)
theorem dAdd {a b : Expr} {fa fb : SE} {pos : Pos} (ha : PE X a (tE fa)) (hb : PE X b (tE fb)) : PE X (.BinOp a .Add b pos) (tE (eBin gAdd fa fb)) :=
  dOp (op_add.or (op_catA.or (op_cat.or op_add_str))) ((op2I0.or (op2CatT.or (op2CatL.or op2CatS))).conv fun d e => by cases d <;> cases e <;> simp [gAdd, orG, gI, gCatT, gCatL, gCatS]) ha hb
end
end Dn

set_option Elab.async false
set_option linter.all false
set_option maxRecDepth 100000
set_option maxHeartbeats 4000000
/-! Dn5: the operations, continued: numbers, comparisons, members, items, slices, lengths. -/
namespace Dn
open PySem PySem.Spec PyProof.Rows L2

instance decCMul (i j : Int) : Decidable (CMul i j) := by unfold CMul; infer_instance
instance decCDivN (i j : Int) : Decidable (CDivN i j) := by unfold CDivN; infer_instance
instance decCPow (i j : Int) : Decidable (CPow i j) := by unfold CPow; infer_instance
def gSub : PyData → PyData → Option Rs := gI fun i j => some (.im (.int (i - j)))
def gRep : PyData → PyData → Option Rs
  | .list ds, .int k => chk ((-(2 ^ 63) ≤ k ∧ k < 2 ^ 63) ∧ ds.length * k.toNat ≤ sizeLine) (.ow (.list (List.replicate k.toNat ds).flatten))
  | _, _ => none
theorem op2Rep : Op2 rRep gRep where
  run := fun H F v w d e o Q s hv hw h r => by
    cases d <;> cases e <;> first
      | cases h; done
      | (obtain ⟨⟨⟨c1, c2⟩, c3⟩, rfl⟩ := chk_some h
         obtain ⟨a, xs, rfl, h1, z1, r1⟩ := hv.lst s
         have l1 := r1.len
         refine ⟨a, _, xs, rfl, hw.int, h1, c1, c2, by rw [l1]; exact c3, Res.lst r (r1.rep _) ?_⟩
         rw [PyProof.Rows.lm_len_rep_flat, Nat.mul_comm, l1]; exact c3)
def gMul : PyData → PyData → Option Rs
  | .int i, .int j => chk (CMul i j) (.im (.int (i * j)))
  | .list ds, .int k => chk ((-(2 ^ 63) ≤ k ∧ k < 2 ^ 63) ∧ ds.length * k.toNat ≤ sizeLine) (.ow (.list (List.replicate k.toNat ds).flatten))
  | _, _ => none
def gDiv : PyData → PyData → Option Rs := gI fun i j => chk (CDivN i j) (.im (.int (i.fdiv j)))
def gMod : PyData → PyData → Option Rs := gI fun i j => chk (j ≠ 0) (.im (.int (i.fmod j)))
def gPow : PyData → PyData → Option Rs := gI fun i j => chk (CPow i j) (.im (.int (i ^ j.toNat)))
def gShl : PyData → PyData → Option Rs := gI fun i j => chk (CPow i j) (.im (.int (i * 2 ^ j.toNat)))
def gShr : PyData → PyData → Option Rs := gI fun i j => chk (0 ≤ j) (.im (.int (i / 2 ^ j.toNat)))
def gAnd : PyData → PyData → Option Rs := gI fun i j => some (.im (.int (Builtin.bitAnd i j)))
def gOr : PyData → PyData → Option Rs := gI fun i j => some (.im (.int (Builtin.bitOr i j)))
def gNeg : PyData → Option Rs
  | .int i => some (.im (.int (-i)))
  | _ => none
theorem op1Neg : Op1 (rU fun i => .int (-i)) gNeg where
  run := fun H F v d o Q s hv h r => by
    cases d <;> first
      | cases h; done
      | (cases h; exact ⟨_, hv.int, r.1 _ (.int _)⟩)
section
variable {X : Cx} {a b : Expr} {fa fb : SE} {pos : Pos}
theorem dSub (ha : PE X a (tE fa)) (hb : PE X b (tE fb)) : PE X (.BinOp a .Sub b pos) (tE (eBin gSub fa fb)) := dOp op_sub op2I0 ha hb
theorem dMul (ha : PE X a (tE fa)) (hb : PE X b (tE fb)) : PE X (.BinOp a .Mult b pos) (tE (eBin gMul fa fb)) :=
  dOp (op_mul.or op_rep) ((op2I.or op2Rep).conv fun d e => by cases d <;> cases e <;> simp [gMul, orG, gI, gRep]) ha hb
theorem dDiv (ha : PE X a (tE fa)) (hb : PE X b (tE fb)) : PE X (.BinOp a .FloorDiv b pos) (tE (eBin gDiv fa fb)) := dOp op_fdivN op2I ha hb
theorem dMod (ha : PE X a (tE fa)) (hb : PE X b (tE fb)) : PE X (.BinOp a .Mod b pos) (tE (eBin gMod fa fb)) := dOp op_modN op2I ha hb
theorem dPow (ha : PE X a (tE fa)) (hb : PE X b (tE fb)) : PE X (.BinOp a .Pow b pos) (tE (eBin gPow fa fb)) := dOp op_pow op2I ha hb
theorem dShl (ha : PE X a (tE fa)) (hb : PE X b (tE fb)) : PE X (.BinOp a .LShift b pos) (tE (eBin gShl fa fb)) := dOp op_shl op2I ha hb
theorem dShr (ha : PE X a (tE fa)) (hb : PE X b (tE fb)) : PE X (.BinOp a .RShift b pos) (tE (eBin gShr fa fb)) := dOp op_shr op2I ha hb
theorem dBand (ha : PE X a (tE fa)) (hb : PE X b (tE fb)) : PE X (.BinOp a .BitAnd b pos) (tE (eBin gAnd fa fb)) := dOp op_and op2I0 ha hb
theorem dBor (ha : PE X a (tE fa)) (hb : PE X b (tE fb)) : PE X (.BinOp a .BitOr b pos) (tE (eBin gOr fa fb)) := dOp op_or op2I0 ha hb
theorem dNeg (ha : PE X a (tE fa)) : PE X (.UnaryOp .USub a pos) (tE (eUn gNeg fa)) := dUn un_neg op1Neg ha
end

/-! ### order -/
def gLt : PyData → PyData → Option Rs := gI fun i j => some (.im (.bool (decide (i < j))))
def gLe : PyData → PyData → Option Rs := gI fun i j => some (.im (.bool (decide (i ≤ j))))
def gGt : PyData → PyData → Option Rs := gI fun i j => some (.im (.bool (decide (j < i))))
def gGe : PyData → PyData → Option Rs := gI fun i j => some (.im (.bool (decide (j ≤ i))))

/-! ### == != -/
def gEqD (d e : PyData) : Option Rs := chk (SeqAt.shaped d = true ∧ SeqAt.shaped e = true) (.im (.bool (PyData.eqv d e)))
def gNeD (d e : PyData) : Option Rs := chk (SeqAt.shaped d = true ∧ SeqAt.shaped e = true) (.im (.bool (!PyData.eqv d e)))
/-- two texts, whatever their signs -/
def gEqT : PyData → PyData → Option Rs
  | .str x, .str y => some (.im (.bool (x == y)))
  | _, _ => none
def gNeT : PyData → PyData → Option Rs
  | .str x, .str y => some (.im (.bool (!(x == y))))
  | _, _ => none
def gEq : PyData → PyData → Option Rs := orG gEqT gEqD
def gNe : PyData → PyData → Option Rs := orG gNeT gNeD
theorem gEq_of {d e : PyData} {o : Rs} (h : gEqD d e = some o) : gEq d e = some o := by
  unfold gEq orG
  cases q : gEqT d e with
  | none => rw [Option.none_or]; exact h
  | some u =>
    rw [Option.some_or]
    cases d <;> first | cases q; done | skip
    cases e <;> first | cases q; done | skip
    cases q
    obtain ⟨_, rfl⟩ := chk_some h
    simp only [PyData.eqv]
theorem gNe_of {d e : PyData} {o : Rs} (h : gNeD d e = some o) : gNe d e = some o := by
  unfold gNe orG
  cases q : gNeT d e with
  | none => rw [Option.none_or]; exact h
  | some u =>
    rw [Option.some_or]
    cases d <;> first | cases q; done | skip
    cases e <;> first | cases q; done | skip
    cases q
    obtain ⟨_, rfl⟩ := chk_some h
    simp only [PyData.eqv]
theorem dec_strV (x y : Str) : decide (V.str x = V.str y) = (x == y) := by
  rw [Bool.eq_iff_iff]
  simp
theorem op2EqT : Op2 rEq gEqT where
  run := fun H F v w d e o Q s hv hw h r => by
    cases d <;> first | cases h; done | skip
    cases e <;> first | cases h; done | skip
    cases h
    rw [hv.str, hw.str]
    refine ⟨rfl, ?_⟩
    rw [dec_strV]
    exact r.1 _ (.bl _)
theorem op2NeT : Op2 rNe gNeT where
  run := fun H F v w d e o Q s hv hw h r => by
    cases d <;> first | cases h; done | skip
    cases e <;> first | cases h; done | skip
    cases h
    rw [hv.str, hw.str]
    refine ⟨rfl, ?_⟩
    rw [dec_strV]
    exact r.1 _ (.bl _)
theorem op2Eq {K : PySem.W.Frag} : Op2 (rEqD K) gEqD where
  run := fun H F v w d e o Q s hv hw h r => by
    obtain ⟨⟨c1, c2⟩, rfl⟩ := chk_some h
    exact ⟨d, e, hv.dp s (SeqAt.canLay_of_shaped c1), hw.dp s (SeqAt.canLay_of_shaped c2), c1, c2, r.1 _ (.bl _)⟩
theorem op2Ne {K : PySem.W.Frag} : Op2 (rNeD K) gNeD where
  run := fun H F v w d e o Q s hv hw h r => by
    obtain ⟨⟨c1, c2⟩, rfl⟩ := chk_some h
    exact ⟨d, e, hv.dp s (SeqAt.canLay_of_shaped c1), hw.dp s (SeqAt.canLay_of_shaped c2), c1, c2, r.1 _ (.bl _)⟩

/-! ### in, not in -/
/-- x in a tuple of data of any depth -/
def rInT (K : PySem.W.Frag) (neg : Bool) : R2 := fun x y H Q => ∃ d ds, Dp K H x d ∧ Dp K H y (.tuple ds) ∧ SeqAt.shaped d = true ∧ SeqAt.shaped (.tuple ds) = true ∧ Q (.bl (if neg then !(ds.any fun z => PyData.eqv z d) else ds.any fun z => PyData.eqv z d)) H
theorem room_in {A : Around} {d : PyData} {n : Nat} (sd : SeqAt.shaped d = true) (hu : A.units + 65 < cLine) : A.units + 1 + min n d.depth < cLine := by
  have h1 := SeqAt.depth_of_shaped sd
  have h2 : min n d.depth ≤ d.depth := Nat.min_le_right _ _
  omega
theorem op_inT {X : Cx} (hu : X.A.units + 65 < cLine) : OpR X (compareOp .In) (rInT X.K false) := by
  intro pins s σ H x y v u Q I rx ry h
  obtain ⟨d, ds, hd, he, sd, se, q⟩ := h
  obtain ⟨as, r1⟩ := Dp.reads I d x v hd rx
  obtain ⟨bs, r2⟩ := Dp.reads I (.tuple ds) y u he ry
  exact SeqAt.in_tuple_reads r2 r1 (by simpa [PyData.canLay0] using SeqAt.canLay_of_shaped se) (SeqAt.canLay_of_shaped sd) (room_in sd hu) ⟨.bl _, H, I, rfl, q⟩
theorem op_notInT {X : Cx} (hu : X.A.units + 65 < cLine) : OpR X (compareOp .NotIn) (rInT X.K true) := by
  intro pins s σ H x y v u Q I rx ry h
  obtain ⟨d, ds, hd, he, sd, se, q⟩ := h
  obtain ⟨as, r1⟩ := Dp.reads I d x v hd rx
  obtain ⟨bs, r2⟩ := Dp.reads I (.tuple ds) y u he ry
  exact SeqAt.notIn_tuple_reads r2 r1 (by simpa [PyData.canLay0] using SeqAt.canLay_of_shaped se) (SeqAt.canLay_of_shaped sd) (room_in sd hu) ⟨.bl _, H, I, rfl, q⟩
def rInDict (neg : Bool) : R2 := fun y x H Q => ∃ a o, x = .ref a ∧ DGet H a y o ∧ Q (.bl (if neg then !o.isSome else o.isSome)) H
theorem op_inDict {X : Cx} (hu : X.A.units + 65 < cLine) : OpR X (compareOp .In) (rInDict false) := by
  intro pins s σ H x y v u Q I rx ry h
  obtain ⟨a, o, rfl, g, q⟩ := h
  cases ry
  exact d_in (by omega) I g rx fun s' I' => ⟨.bl _, H, I', rfl, q⟩
theorem op_notInDict {X : Cx} (hu : X.A.units + 65 < cLine) : OpR X (compareOp .NotIn) (rInDict true) := by
  intro pins s σ H x y v u Q I rx ry h
  obtain ⟨a, o, rfl, g, q⟩ := h
  cases ry
  exact d_notIn (by omega) I g rx fun s' I' => ⟨.bl _, H, I', rfl, q⟩
/-- a datum that is one key: an int or a text -/
def keyOf : PyData → Option Key
  | .int i => some (.inl i)
  | .str x => some (.inr x)
  | _ => none
theorem keyOf_some {d : PyData} {k : Key} (h : keyOf d = some k) : d = keyD k := by
  cases d <;> first | cases h; done | (cases h; rfl)
theorem Rd1.key {H F : Hp} {v : V} {d : PyData} {k : Key} (h : Rd1 H F v d) (e : keyOf d = some k) : v = kV k := by
  cases d <;> first
    | cases e; done
    | (cases e; exact h.int)
    | (cases e; exact h.str)
/-- what a dict with keys of ints and texts holds at k -/
def lookD (k : Key) : List (PyData × PyData) → Option PyData
  | [] => none
  | (c, d) :: r => if keyOf c = some k then some d else lookD k r
theorem keyOf_keyD (k : Key) : keyOf (keyD k) = some k := by cases k <;> rfl
theorem RpK.look {F : Hp} {k : Key} : ∀ {kvs : List (Key × V)} {ds : List (PyData × PyData)}, RpK F kvs ds → (valV kvs k = none ∧ lookD k ds = none) ∨ ∃ v d, valV kvs k = some v ∧ lookD k ds = some d ∧ Rp F v d
  | _, _, .nil => .inl ⟨rfl, rfl⟩
  | _, _, .cons (k := c) (v := v) (d := d) (vs := vs) (ds := ds) h r => by
    by_cases e : c = k
    · refine .inr ⟨v, d, valV_pos (p := (c, v)) e, ?_, h⟩
      show (if keyOf (keyD c) = some k then some d else lookD k ds) = some d
      rw [keyOf_keyD, e, if_pos rfl]
    · rw [valV_neg (p := (c, v)) e]
      have q : lookD k ((keyD c, d) :: ds) = lookD k ds := by
        show (if keyOf (keyD c) = some k then some d else lookD k ds) = _
        rw [keyOf_keyD, if_neg (fun z => e (Option.some.inj z))]
      rw [q]
      exact RpK.look r
/-- keys that are all ints or texts -/
def flatKeys : List (PyData × PyData) → Bool
  | [] => true
  | (c, _) :: r => (keyOf c).isSome && flatKeys r
theorem Rd1.dict {H F : Hp} {v : V} {ds : List (PyData × PyData)} (s : Sub F H) (h : Rd1 H F v (.dict ds)) : ∃ a, v = .ref a ∧ ((∃ kvs, H a = some (.dK kvs) ∧ RpK F kvs ds) ∨ ∃ kvs, H a = some (.dT kvs) ∧ kvs ≠ [] ∧ RpT F kvs ds) := by
  rcases h with h | ⟨a, rfl, h⟩
  · cases h with
    | dk h r => exact ⟨_, rfl, .inl ⟨_, s _ _ h, r⟩⟩
    | dt h n r => exact ⟨_, rfl, .inr ⟨_, s _ _ h, n, r⟩⟩
  · exact ⟨a, rfl, h⟩
theorem RpT.flat {F : Hp} {kvs : List (List Key × V)} {ds : List (PyData × PyData)} (h : RpT F kvs ds) (hf : flatKeys ds = true) : kvs = [] ∧ ds = [] := by
  cases h with
  | nil => exact ⟨rfl, rfl⟩
  | cons _ _ => exact absurd hf (by simp [flatKeys, keyOf])
end Dn
namespace Dn
open PySem PySem.Spec PyProof.Rows L2

/-! ### in, not in: the rules -/
def gInS (neg : Bool) : PyData → PyData → Option Rs
  | d, .list ds => chk (SeqAt.shaped d = true ∧ SeqAt.shaped (.list ds) = true) (.im (.bool (if neg then !(ds.any fun z => PyData.eqv z d) else ds.any fun z => PyData.eqv z d)))
  | d, .tuple ds => chk (SeqAt.shaped d = true ∧ SeqAt.shaped (.tuple ds) = true) (.im (.bool (if neg then !(ds.any fun z => PyData.eqv z d) else ds.any fun z => PyData.eqv z d)))
  | d, .dict ds => match keyOf d with
    | some k => chk (flatKeys ds = true) (.im (.bool (if neg then !(lookD k ds).isSome else (lookD k ds).isSome)))
    | none => none
  | _, _ => none
/-- a member of a list, of a tuple, of a dict's keys -/
def rMem (K : PySem.W.Frag) (neg : Bool) : R2 := fun x y H Q => (∃ d ds, Dp K H x d ∧ Dp K H y (.list ds) ∧ SeqAt.shaped d = true ∧ SeqAt.shaped (.list ds) = true ∧ Q (.bl (if neg then !(ds.any fun z => PyData.eqv z d) else ds.any fun z => PyData.eqv z d)) H) ∨ rInT K neg x y H Q ∨ rInDict neg x y H Q
/-- dicts whose keys are ints and texts stand as such -/
theorem Rd1.dictK {H F : Hp} {v : V} {ds : List (PyData × PyData)} (s : Sub F H) (h : Rd1 H F v (.dict ds)) (hf : flatKeys ds = true) : ∃ a kvs, v = .ref a ∧ H a = some (.dK kvs) ∧ RpK F kvs ds := by
  obtain ⟨a, rfl, ⟨kvs, h1, h2⟩ | ⟨kvs, h1, h2, h3⟩⟩ := h.dict s
  · exact ⟨a, kvs, rfl, h1, h2⟩
  · exact absurd (h3.flat hf).1 h2
theorem RpK.isSome {F : Hp} {k : Key} {kvs : List (Key × V)} {ds : List (PyData × PyData)} (h : RpK F kvs ds) : (valV kvs k).isSome = (lookD k ds).isSome := by
  rcases h.look (k := k) with ⟨h1, h2⟩ | ⟨v, d, h1, h2, _⟩
  · simp [h1, h2]
  · simp [h1, h2]
theorem op2Mem {K : PySem.W.Frag} {neg : Bool} : Op2 (rMem K neg) (gInS neg) where
  run := fun H F v w d e o Q s hv hw h r => by
    cases e with
    | list ds =>
      obtain ⟨⟨c1, c2⟩, rfl⟩ := chk_some h
      exact .inl ⟨d, ds, hv.dp s (SeqAt.canLay_of_shaped c1), hw.dp s (SeqAt.canLay_of_shaped c2), c1, c2, r.1 _ (.bl _)⟩
    | tuple ds =>
      obtain ⟨⟨c1, c2⟩, rfl⟩ := chk_some h
      exact .inr (.inl ⟨d, ds, hv.dp s (SeqAt.canLay_of_shaped c1), hw.dp s (SeqAt.canLay_of_shaped c2), c1, c2, r.1 _ (.bl _)⟩)
    | dict ds =>
      replace h : (match keyOf d with
        | some k => chk (flatKeys ds = true) (.im (.bool (if neg then !(lookD k ds).isSome else (lookD k ds).isSome)))
        | none => none) = some o := h
      cases ek : keyOf d with
      | none => rw [ek] at h; cases h
      | some k =>
        rw [ek] at h
        obtain ⟨c, rfl⟩ := chk_some h
        obtain ⟨a, kvs, rfl, h1, h2⟩ := hw.dictK s c
        have hk := hv.key ek
        subst hk
        exact .inr (.inr ⟨a, _, rfl, DGet.k h1, by rw [h2.isSome]; exact r.1 _ (.bl _)⟩)
    | _ => cases h
section
variable {X : Cx} {a b : Expr} {fa fb : SE} {pos : Pos}
theorem op_mem (hu : X.A.units + 65 < cLine) : OpR X (compareOp .In) (rMem X.K false) := by
  intro pins s σ H x y v u Q I rx ry h
  rcases h with h | h | h
  · exact op_inD hu pins s σ H x y v u Q I rx ry h
  · exact op_inT hu pins s σ H x y v u Q I rx ry h
  · exact op_inDict hu pins s σ H x y v u Q I rx ry h
theorem op_notMem (hu : X.A.units + 65 < cLine) : OpR X (compareOp .NotIn) (rMem X.K true) := by
  intro pins s σ H x y v u Q I rx ry h
  rcases h with h | h | h
  · exact op_notInD hu pins s σ H x y v u Q I rx ry h
  · exact op_notInT hu pins s σ H x y v u Q I rx ry h
  · exact op_notInDict hu pins s σ H x y v u Q I rx ry h
theorem room65 {A : Around} {k : Nat} (hr : Room k A) : A.units + 65 < cLine := by have := hr.un; omega
end

/-! ### is, is not -/
def gIs (neg : Bool) : PyData → PyData → Option Rs
  | .none, .none => some (.im (.bool (!neg)))
  | _, .none => some (.im (.bool neg))
  | .bool a, .bool b => some (.im (.bool (if neg then !decide (a = b) else decide (a = b))))
  | _, _ => none
def rIs (neg : Bool) : R2 := fun x y H Q => (y = .non ∧ Q (.bl (if neg then !decide (x = .non) else decide (x = .non))) H) ∨ ∃ a b : Bool, x = .bl a ∧ y = .bl b ∧ Q (.bl (if neg then !decide (a = b) else decide (a = b))) H
theorem op_isG {X : Cx} : OpR X (compareOp .Is) (rIs false) := by
  intro pins s σ H x y v u Q I rx ry h
  rcases h with h | h
  · exact op_isN pins s σ H x y v u Q I rx ry h
  · exact op_isBl pins s σ H x y v u Q I rx ry h
theorem op_isNotG {X : Cx} : OpR X (compareOp .IsNot) (rIs true) := by
  intro pins s σ H x y v u Q I rx ry h
  rcases h with h | h
  · exact op_notN pins s σ H x y v u Q I rx ry h
  · exact op_notBl pins s σ H x y v u Q I rx ry h
theorem op2Is {neg : Bool} : Op2 (rIs neg) (gIs neg) where
  run := fun H F v w d e o Q s hv hw h r => by
    have hn := hv.isNon
    cases e with
    | none =>
      refine .inl ⟨hw.non, ?_⟩
      rw [hn]
      cases d <;> (cases h; cases neg <;> exact r.1 _ (.bl _))
    | bool b =>
      cases d <;> first
        | cases h; done
        | (cases h; exact .inr ⟨_, _, hv.bl, hw.bl, r.1 _ (.bl _)⟩)
    | _ => cases d <;> cases h
end Dn

set_option Elab.async false
set_option linter.all false
set_option maxRecDepth 100000
set_option maxHeartbeats 4000000
/-! Dn6: items, slices, built-ins. -/
namespace Dn
open PySem PySem.Spec PyProof.Rows L2

/-! ### x[i] -/
theorem RpA.atI {F : Hp} {xs : List V} {ds : List PyData} {i : Int} {d : PyData} (h : RpA F xs ds) (e : atI ds i = some d) : ∃ v, L2.atI xs i = some v ∧ Rp F v d := by
  unfold L2.atI at e ⊢
  rw [h.len]
  cases q : ixN ds.length i with
  | none => rw [q] at e; cases e
  | some j =>
    rw [q] at e
    exact h.get e
def gIx : PyData → PyData → Option Rs
  | .list ds, .int i => (atI ds i).map .im
  | .tuple ds, .int i => (atI ds i).map .im
  | .dict ds, e => match keyOf e with
    | some k => if flatKeys ds = true then (lookD k ds).map .im else none
    | none => none
  | _, _ => none
def rIxD : R2 := fun x y H Q => ∃ a v, x = .ref a ∧ DGet H a y (some v) ∧ Q v H
theorem ix_dict {X : Cx} (hu : X.A.units + 65 < cLine) : IxR X rIxD := by
  intro value slice pins s σ H x y v u Q I rx ry h hs
  obtain ⟨a, w, rfl, g, q⟩ := h
  cases rx
  exact tail_any (dict_typeIs I g) PySem.F.slot_dict_getitem.lookup (d_getItem (by omega) I g ry fun w' s' I' r => ⟨w, H, I', r, q⟩) hs
def rIxG (K : PySem.W.Frag) : R2 := fun x y H Q => rIxL K x y H Q ∨ rIxT K x y H Q ∨ rIxD x y H Q
theorem ix_any {X : Cx} (hu : X.A.units + 65 < cLine) : IxR X (rIxG X.K) := ix_list.or (ix_tup.or (ix_dict hu))
theorem op2Ix {K : PySem.W.Frag} : Op2 (rIxG K) gIx where
  run := fun H F v w d e o Q s hv hw h r => by
    cases d with
    | list ds =>
      cases e with
      | int i =>
        obtain ⟨u, h1, rfl⟩ := Option.map_eq_some_iff.mp h
        obtain ⟨a, xs, rfl, h2, z, ra⟩ := hv.lst s
        obtain ⟨x, h3, h4⟩ := ra.atI h1
        exact .inl ⟨a, xs, i, x, rfl, hw.int, SqL.of h2, h3, r.val h4⟩
      | _ => cases h
    | tuple ds =>
      cases e with
      | int i =>
        obtain ⟨u, h1, rfl⟩ := Option.map_eq_some_iff.mp h
        obtain ⟨a, xs, rfl, h2, z, ra⟩ := hv.tup s
        obtain ⟨x, h3, h4⟩ := ra.atI h1
        exact .inr (.inl ⟨a, xs, i, x, rfl, hw.int, SqT.of h2, h3, r.val h4⟩)
      | _ => cases h
    | dict ds =>
      replace h : (match keyOf e with
        | some k => if flatKeys ds = true then (lookD k ds).map Rs.im else none
        | none => none) = some o := h
      cases ek : keyOf e with
      | none => rw [ek] at h; cases h
      | some k =>
        rw [ek] at h
        replace h : (if flatKeys ds = true then (lookD k ds).map Rs.im else none) = some o := h
        by_cases c : flatKeys ds = true
        · rw [if_pos c] at h
          obtain ⟨u, h1, rfl⟩ := Option.map_eq_some_iff.mp h
          obtain ⟨a, kvs, rfl, h2, h3⟩ := hv.dictK s c
          have hk := hw.key ek
          subst hk
          rcases h3.look (k := k) with ⟨_, q⟩ | ⟨x, d', q1, q2, q3⟩
          · rw [h1] at q; cases q
          · rw [h1] at q2; cases q2
            exact .inr (.inr ⟨a, x, rfl, by rw [← q1]; exact DGet.k h2, r.val q3⟩)
        · rw [if_neg c] at h; cases h
    | _ => cases h
theorem ix_imp {r : R2} {g : PyData → PyData → Option Rs} {fa fb : SE} (ho : Op2 r g) {σ : St} {H : Hp} {Q : VK} (q : tE (eBin g fa fb) σ H Q) : tOp r (tE fa) (tE fb) σ H Q := bin_imp ho q
section
variable {X : Cx} {a b : Expr} {fa fb : SE} {pos : Pos}
theorem dIx {k : Nat} (hr : Room k X.A) (ha : PE X a (tE fa)) (hb : PE X b (tE fb)) (hs : PlainIx b := by exact fun _ _ => rfl) : PE X (.Subscript a b pos) (tE (eBin gIx fa fb)) :=
  PE.imp (pe_ix (ix_any (room65 hr)) ha hb hs) fun _ _ _ q => bin_imp op2Ix q
end

/-! ### x[lo:hi] -/
abbrev SO := Rho → Src → Option (Option Int × Rho × Src)
def oNone : SO := fun ρ S => some (none, ρ, S)
def oSome (f : SE) : SO := fun ρ S => do
  let (r, ρ1, S1) ← f ρ S
  match datOf ρ1 r with
  | some (.int i) => some (some i, ρ1, S1)
  | _ => none
def tO (f : SO) : TO := fun σ H Q => ∃ B F ρ S r ρ' S', DEnv B σ H F ρ S ∧ f ρ S = some (r, ρ', S') ∧
  ∀ H' F', DEnv B σ H' F' ρ' S' → Ext (DOwn B σ ρ) F H F' H' → (∀ b, DOwn B σ ρ' b → DOwn B σ ρ b) → Q r H'
def cutD (ds : List PyData) (lo hi : Option Int) : List PyData := (ds.drop (HT.sIx ds.length 0 lo)).take (HT.sIx ds.length ds.length hi - HT.sIx ds.length 0 lo)
theorem RpA.cut {F : Hp} {xs : List V} {ds : List PyData} (h : RpA F xs ds) (lo hi : Option Int) : RpA F (cutV xs lo hi) (cutD ds lo hi) := by
  unfold cutV cutD
  rw [h.len]
  exact (h.drop _).take _
def gSl : PyData → Option Int → Option Int → Option Rs
  | .list ds, lo, hi => some (.ow (.list (cutD ds lo hi)))
  | .tuple ds, lo, hi => some (.im (.tuple (cutD ds lo hi)))
  | _, _, _ => none
def eSl (f : SE) (lo hi : SO) : SE := fun ρ S => do
  let (r, ρ1, S1) ← f ρ S
  let (l, ρ2, S2) ← lo ρ1 S1
  let (h, ρ3, S3) ← hi ρ2 S2
  let d ← datOf ρ3 r
  let o ← gSl d l h
  some (o.vl, ρ3, S3)
theorem sIx_whole {n : Nat} {lo hi : Option Int} {α : Type} {ds : List α} (hn : ds.length = n) (h : HT.sIx n 0 lo = 0 ∧ HT.sIx n n hi = n) : (ds.drop (HT.sIx n 0 lo)).take (HT.sIx n n hi - HT.sIx n 0 lo) = ds := by
  rw [h.1, h.2, List.drop_zero, Nat.sub_zero, ← hn, List.take_length]
section
variable {X : Cx} {e : Expr} {f : SE} {pos p2 : Pos}
theorem dO0 : PO X none (tO oNone) := by
  refine ⟨fun pins s σ H Q I q => po_none.run pins s σ H Q I ?_⟩
  obtain ⟨B, F, ρ, S, r, ρ', S', E, e, k⟩ := q
  cases e
  exact k H F E (Ext.refl _ _ _) fun _ z => z
theorem dO (h : PE X e (tE f)) : PO X (some e) (tO (oSome f)) := by
  refine ⟨fun pins s σ H Q I q => (po_some h).run pins s σ H Q I ?_⟩
  obtain ⟨B, F, ρ, S, r, ρ', S', E, e, k⟩ := q
  obtain ⟨⟨u, ρ1, S1⟩, e1, e⟩ := bind_some e
  refine ⟨B, F, ρ, S, u, ρ1, S1, E, e1, fun v H1 F1 E1 x1 o1 ok fr => ?_⟩
  replace e : (match datOf ρ1 u with
    | some (.int i) => some (some i, ρ1, S1)
    | _ => none) = some (r, ρ', S') := e
  cases q : datOf ρ1 u with
  | none => rw [q] at e; cases e
  | some d =>
    rw [q] at e
    cases d with
    | int i => cases e; exact ⟨i, (ok.rd E1 q).int, k H1 F1 E1 x1 o1⟩
    | _ => cases e
theorem dSl {lo hi : Option Expr} {fl fh : SO} (he : PE X e (tE f)) (hl : PO X lo (tO fl)) (hh : PO X hi (tO fh)) : PE X (.Subscript e (.Slice lo hi none p2) pos) (tE (eSl f fl fh)) := by
  refine PE.imp (pe_slice (sl_list.or sl_tupA) he hl hh) ?_
  rintro σ H Q ⟨B, F, ρ, S, r, ρ', S', E, e, k⟩
  obtain ⟨⟨u, ρ1, S1⟩, e1, e⟩ := bind_some e
  obtain ⟨⟨l, ρ2, S2⟩, e2, e⟩ := bind_some e
  obtain ⟨⟨m, ρ3, S3⟩, e3, e⟩ := bind_some e
  obtain ⟨d, e4, e⟩ := bind_some e
  obtain ⟨o, e5, e⟩ := bind_some e
  cases e
  refine ⟨B, F, ρ, S, u, ρ1, S1, E, e1, fun v H1 F1 E1 x1 o1 ok1 fr1 => ⟨B, F1, ρ1, S1, l, ρ2, S2, E1, e2, fun H2 F2 E2 x2 o2 => ⟨B, F2, ρ2, S2, m, _, _, E2, e3, fun H3 F3 E3 x3 o3 => ?_⟩⟩⟩
  have nO : ∀ a d, u = .ow d → v = .ref a → ¬ DOwn B σ ρ1 a := fun a d h1 h2 z => by
    subst h1
    obtain ⟨a', h3, _, _, _, h5⟩ := ok1
    rw [h2] at h3; cases h3
    exact h5 z
  have ok2 := ok1.stay x2 nO o2
  have ok3 := ok2.stay x3 (fun a d h1 h2 z => nO a d h1 h2 (o2 a z)) o3
  have R : Res H3 F3 o Q := Res.of E3 (KE.after (x1.trans (x2.trans x3 fun b z => .inl (o2 b z)) fun b z => .inl (o1 b z)) (fun b z => o1 b (o2 b (o3 b z))) k)
  have rd := ok3.rd E3 e4
  cases d with
  | list ds =>
    cases e5
    obtain ⟨a, xs, rfl, h1, z, ra⟩ := rd.lst E3.sub
    refine .inl ⟨a, xs, rfl, SqL.of h1, Res.lst R (ra.cut l m) (Nat.le_trans (cutV_length _ _ _) z)⟩
  | tuple ds =>
    cases e5
    obtain ⟨a, xs, rfl, h1, z, ra⟩ := rd.tup E3.sub
    refine .inr ⟨a, xs, rfl, SqT.of h1, fun w => ?_, fun _ => Res.tup R (ra.cut l m) (Nat.le_trans (cutV_length _ _ _) z)⟩
    have e6 : cutD ds l m = ds := by
      unfold cutD
      rw [ra.len] at w
      exact sIx_whole rfl w
    rw [e6] at R
    refine R.val ?_
    rcases rd with q | ⟨_, _, q⟩
    · exact q
    · exact q.elim
  | _ => cases e5
/-- x[::-1] of a list -/
def gRev : PyData → Option Rs
  | .list ds => some (.ow (.list ds.reverse))
  | _ => none
theorem dRevL {k : Nat} {p1 p3 p4 : Pos} (he : PE X e (tE f)) : PE X (.Subscript e (.Slice none none (some (.UnaryOp .USub (.Constant (.int 1) k p1) p2)) p3) pos) (tE (eUn gRev f)) := by
  refine PE.imp (pe_revL he) ?_
  intro σ H Q q
  refine un_imp (r := fun x H1 Q => ∃ a xs, x = .ref a ∧ SqL X.K H1 a xs ∧ ∀ p, H1 p = none → Q (.ref p) (upd H1 p (.lst xs.reverse))) ⟨fun H F v d o Q s hv h r => ?_⟩ q
  cases d with
  | list ds =>
    cases h
    obtain ⟨a, xs, rfl, h1, z, ra⟩ := hv.lst s
    exact ⟨a, xs, rfl, SqL.of h1, Res.lst r ra.rev (by rw [List.length_reverse]; exact z)⟩
  | _ => cases h
end

/-! ### built-in calls of one argument -/
/-- one argument -/
def g1 (g : PyData → Option Rs) : List PyData → Option Rs
  | [d] => g d
  | _ => none
theorem opN1 {r : List V → Hp → VK → Prop} {g : PyData → Option Rs} (h : ∀ (H F : Hp) (v : V) (d : PyData) (o : Rs) (Q : VK), Sub F H → Rd1 H F v d → g d = some o → Res H F o Q → r [v] H Q) : OpN r (g1 g) where
  run := fun H F vs ds o Q s hv e rr => by
    match ds, hv, e with
    | [d], .cons hv .nil, e => exact h H F _ d o Q s hv e rr
    | [], _, e => cases e
    | _ :: _ :: _, _, e => cases e
def g2 (g : PyData → PyData → Option Rs) : List PyData → Option Rs
  | [d, e] => g d e
  | _ => none
theorem opN2 {r : List V → Hp → VK → Prop} {g : PyData → PyData → Option Rs} (h : ∀ (H F : Hp) (v w : V) (d e : PyData) (o : Rs) (Q : VK), Sub F H → Rd1 H F v d → Rd1 H F w e → g d e = some o → Res H F o Q → r [v, w] H Q) : OpN r (g2 g) where
  run := fun H F vs ds o Q s hv e rr => by
    match ds, hv, e with
    | [d, d'], .cons hv (.cons hw .nil), e => exact h H F _ _ d d' o Q s hv hw e rr
    | [], _, e => cases e
    | [_], _, e => cases e
    | _ :: _ :: _ :: _, _, e => cases e
def gLen : PyData → Option Rs
  | .list ds => some (.im (.int ds.length))
  | .tuple ds => some (.im (.int ds.length))
  | .str x => chk (x.length ≤ sizeLine) (.im (.int x.length))
  | .dict ds => some (.im (.int ds.length))
  | _ => none
theorem RpK.len {F : Hp} : ∀ {kvs : List (Key × V)} {ds : List (PyData × PyData)}, RpK F kvs ds → kvs.length = ds.length
  | _, _, .nil => rfl
  | _, _, .cons _ r => by rw [List.length_cons, List.length_cons, RpK.len r]
theorem RpT.len {F : Hp} : ∀ {kvs : List (List Key × V)} {ds : List (PyData × PyData)}, RpT F kvs ds → kvs.length = ds.length
  | _, _, .nil => rfl
  | _, _, .cons _ r => by rw [List.length_cons, List.length_cons, RpT.len r]
def rLenK : List V → Hp → VK → Prop := fun xs H Q => ∃ (p : Addr) (kvs : List (Key × V)), xs = [.ref p] ∧ H p = some (.dK kvs) ∧ Q (.int ((kvs.length : Nat) : Int)) H
theorem call_len_dK {X : Cx} : CallR X (.builtin "len") rLenK := by
  intro pins s σ H xs us Q I r h
  obtain ⟨p, kvs, rfl, hp, q⟩ := h
  obtain ⟨u, rfl, rx⟩ := vals1 r
  obtain rfl : u = .ref p := rx
  exact d_len I (.inl hp) fun t s' I' => ⟨.int ((kvs.length : Nat) : Int), H, I', ⟨_, rfl⟩, q⟩
def rLenG (K : PySem.W.Frag) : List V → Hp → VK → Prop := fun xs H Q => (∃ x n, xs = [x] ∧ LenV K x H n ∧ Q (.int n) H) ∨ rLenK xs H Q ∨ rLenT xs H Q
theorem call_lenG {X : Cx} : CallR X (.builtin "len") (rLenG X.K) := call_len.or (call_len_dK.or call_len_dT)
theorem opLen {K : PySem.W.Frag} : OpN (rLenG K) (g1 gLen) := opN1 fun H F v d o Q s hv h r => by
  cases d with
  | list ds =>
    cases h
    obtain ⟨a, xs, rfl, h1, z, ra⟩ := hv.lst s
    exact .inl ⟨.ref a, xs.length, rfl, .inl ⟨xs, SqL.of h1, rfl⟩, by rw [ra.len]; exact r.val (.int _)⟩
  | tuple ds =>
    cases h
    obtain ⟨a, xs, rfl, h1, z, ra⟩ := hv.tup s
    exact .inl ⟨.ref a, xs.length, rfl, .inr ⟨xs, SqT.of h1, rfl⟩, by rw [ra.len]; exact r.val (.int _)⟩
  | str x =>
    obtain ⟨c, rfl⟩ := chk_some h
    exact .inl ⟨v, x.length, rfl, by rw [hv.str]; exact ⟨c, rfl⟩, r.val (.int _)⟩
  | dict ds =>
    cases h
    obtain ⟨a, rfl, ⟨kvs, h1, h2⟩ | ⟨kvs, h1, _, h2⟩⟩ := hv.dict s
    · exact .inr (.inl ⟨a, kvs, rfl, h1, by rw [h2.len]; exact r.val (.int _)⟩)
    · exact .inr (.inr ⟨a, kvs, rfl, h1, by rw [h2.len]; exact r.val (.int _)⟩)
  | _ => cases h
def gTuple : PyData → Option Rs
  | .list ds => some (.im (.tuple ds))
  | .tuple ds => some (.im (.tuple ds))
  | _ => none
theorem opTuple {K : PySem.W.Frag} : OpN (fun xs H Q => ∃ p ys, xs = [.ref p] ∧ ((SqL K H p ys ∧ ∀ l, H l = none → Q (.ref l) (upd H l (.tup ys))) ∨ (SqT K H p ys ∧ Q (.ref p) H))) (g1 gTuple) := opN1 fun H F v d o Q s hv h r => by
  cases d with
  | list ds =>
    cases h
    obtain ⟨a, xs, rfl, h1, z, ra⟩ := hv.lst s
    exact ⟨a, xs, rfl, .inl ⟨SqL.of h1, Res.tup r ra z⟩⟩
  | tuple ds =>
    cases h
    obtain ⟨a, xs, rfl, h1, z, ra⟩ := hv.tup s
    refine ⟨a, xs, rfl, .inr ⟨SqT.of h1, r.val ?_⟩⟩
    rcases hv with q | ⟨_, _, q⟩
    · exact q
    · exact q.elim
  | _ => cases h
def gList : PyData → Option Rs
  | .list ds => some (.ow (.list ds))
  | .tuple ds => some (.ow (.list ds))
  | _ => none
theorem opList {K : PySem.W.Frag} : OpN (fun xs H Q => ∃ p ys, xs = [.ref p] ∧ (SqL K H p ys ∨ SqT K H p ys) ∧ ∀ l, H l = none → Q (.ref l) (upd H l (.lst ys))) (g1 gList) := opN1 fun H F v d o Q s hv h r => by
  cases d with
  | list ds =>
    cases h
    obtain ⟨a, xs, rfl, h1, z, ra⟩ := hv.lst s
    exact ⟨a, xs, rfl, .inl (SqL.of h1), Res.lst r ra z⟩
  | tuple ds =>
    cases h
    obtain ⟨a, xs, rfl, h1, z, ra⟩ := hv.tup s
    exact ⟨a, xs, rfl, .inr (SqT.of h1), Res.lst r ra z⟩
  | _ => cases h
/-- all ints -/
def intsOf : List PyData → Option (List Int)
  | [] => some []
  | .int i :: r => do
    let is ← intsOf r
    some (i :: is)
  | _ :: _ => none
theorem intsOf_some : ∀ {ds : List PyData} {ns : List Int}, intsOf ds = some ns → ds = ns.map .int
  | [], _, h => by cases h; rfl
  | .int i :: r, ns, h => by
    obtain ⟨is, e, h⟩ := bind_some h
    cases h
    rw [List.map_cons, intsOf_some e]
  | .none :: _, _, h => by cases h
  | .bool _ :: _, _, h => by cases h
  | .str _ :: _, _, h => by cases h
  | .list _ :: _, _, h => by cases h
  | .tuple _ :: _, _, h => by cases h
  | .dict _ :: _, _, h => by cases h
theorem intsOf_map : ∀ ns : List Int, intsOf (ns.map .int) = some ns
  | [] => rfl
  | n :: ns => by
    show (intsOf (ns.map .int) >>= fun is => some (n :: is)) = _
    rw [intsOf_map ns]; rfl
/-- a list of ints -/
def onInts (g : List Int → Option Rs) : PyData → Option Rs
  | .list ds => do
    let ns ← intsOf ds
    g ns
  | _ => none
theorem onInts_some {g : List Int → Option Rs} {d : PyData} {o : Rs} (h : onInts g d = some o) : ∃ ns : List Int, d = .list (ns.map .int) ∧ g ns = some o := by
  cases d with
  | list ds =>
    obtain ⟨ns, e, h⟩ := bind_some h
    exact ⟨ns, by rw [intsOf_some e], h⟩
  | _ => cases h
def maxI : List Int → Int
  | [] => 0
  | [a] => a
  | a :: r => max a (maxI r)
def minI : List Int → Int
  | [] => 0
  | [a] => a
  | a :: r => min a (minI r)
theorem maxI_spec : ∀ {ns : List Int}, ns ≠ [] → maxI ns ∈ ns ∧ ∀ y ∈ ns, y ≤ maxI ns
  | [], h => absurd rfl h
  | [a], _ => ⟨by simp [maxI], by simp [maxI]⟩
  | a :: b :: r, _ => by
    obtain ⟨h1, h2⟩ := maxI_spec (ns := b :: r) (by simp)
    show max a (maxI (b :: r)) ∈ a :: b :: r ∧ ∀ y ∈ a :: b :: r, y ≤ max a (maxI (b :: r))
    constructor
    · by_cases c : a ≤ maxI (b :: r)
      · rw [Int.max_eq_right c]; exact List.mem_cons_of_mem _ h1
      · rw [Int.max_eq_left (by omega)]; exact List.mem_cons_self
    · intro y hy
      rcases List.mem_cons.mp hy with rfl | hy
      · exact Int.le_max_left _ _
      · exact Int.le_trans (h2 y hy) (Int.le_max_right _ _)
theorem minI_spec : ∀ {ns : List Int}, ns ≠ [] → minI ns ∈ ns ∧ ∀ y ∈ ns, minI ns ≤ y
  | [], h => absurd rfl h
  | [a], _ => ⟨by simp [minI], by simp [minI]⟩
  | a :: b :: r, _ => by
    obtain ⟨h1, h2⟩ := minI_spec (ns := b :: r) (by simp)
    show min a (minI (b :: r)) ∈ a :: b :: r ∧ ∀ y ∈ a :: b :: r, min a (minI (b :: r)) ≤ y
    constructor
    · by_cases c : maxI (b :: r) = 0 ∨ True
      · by_cases c : a ≤ minI (b :: r)
        · rw [Int.min_eq_left c]; exact List.mem_cons_self
        · rw [Int.min_eq_right (by omega)]; exact List.mem_cons_of_mem _ h1
      · exact absurd (.inr trivial) c
    · intro y hy
      rcases List.mem_cons.mp hy with rfl | hy
      · exact Int.min_le_left _ _
      · exact Int.le_trans (Int.min_le_right _ _) (h2 y hy)
def gMaxL : PyData → Option Rs := onInts fun ns => chk (0 < ns.length) (.im (.int (maxI ns)))
def gMinL : PyData → Option Rs := onInts fun ns => chk (0 < ns.length) (.im (.int (minI ns)))
def gSum : PyData → Option Rs := onInts fun ns => some (.im (.int ns.sum))
theorem opMaxL {K : PySem.W.Frag} : OpN (rMax K) (g1 gMaxL) := opN1 fun H F v d o Q s hv h r => by
  obtain ⟨ns, rfl, h'⟩ := onInts_some h
  obtain ⟨c, rfl⟩ := chk_some h'
  obtain ⟨a, xs, rfl, h1, z, ra⟩ := hv.lst s
  rw [ra.ints] at h1
  refine ⟨a, ns, rfl, SqL.of h1, c, fun m hm hy => ?_⟩
  obtain ⟨h3, h4⟩ := maxI_spec (ns := ns) (by intro e; rw [e] at c; exact absurd c (by simp))
  have e : m = maxI ns := by
    have := h4 m hm
    have := hy _ h3
    omega
  rw [e]
  exact r.val (.int _)
theorem opMinL {K : PySem.W.Frag} : OpN (rMin K) (g1 gMinL) := opN1 fun H F v d o Q s hv h r => by
  obtain ⟨ns, rfl, h'⟩ := onInts_some h
  obtain ⟨c, rfl⟩ := chk_some h'
  obtain ⟨a, xs, rfl, h1, z, ra⟩ := hv.lst s
  rw [ra.ints] at h1
  refine ⟨a, ns, rfl, SqL.of h1, c, fun m hm hy => ?_⟩
  obtain ⟨h3, h4⟩ := minI_spec (ns := ns) (by intro e; rw [e] at c; exact absurd c (by simp))
  have e : m = minI ns := by
    have := h4 m hm
    have := hy _ h3
    omega
  rw [e]
  exact r.val (.int _)
theorem opSum {K : PySem.W.Frag} : OpN (rSum K) (g1 gSum) := opN1 fun H F v d o Q s hv h r => by
  obtain ⟨ns, rfl, h'⟩ := onInts_some h
  cases h'
  obtain ⟨a, xs, rfl, h1, z, ra⟩ := hv.lst s
  rw [ra.ints] at h1
  exact ⟨a, ns, rfl, SqL.of h1, r.val (.int _)⟩
def gAbs : PyData → Option Rs
  | .int i => some (.im (.int (if i < 0 then -i else i)))
  | _ => none
theorem opAbs : OpN (fun xs H Q => ∃ i, xs = [.int i] ∧ Q (.int (if i < 0 then -i else i)) H) (g1 gAbs) := opN1 fun H F v d o Q s hv h r => by
  cases d with
  | int i => cases h; exact ⟨i, by rw [hv.int], r.val (.int _)⟩
  | _ => cases h
def gInt : PyData → Option Rs
  | .int i => some (.im (.int i))
  | .bool b => some (.im (.int (if b then 1 else 0)))
  | _ => none
theorem opInt : OpN (fun xs H Q => (∃ i, xs = [.int i] ∧ Q (.int i) H) ∨ ∃ k, xs = [.bl k] ∧ Q (.int (if k then 1 else 0)) H) (g1 gInt) := opN1 fun H F v d o Q s hv h r => by
  cases d with
  | int i => cases h; exact .inl ⟨i, by rw [hv.int], r.val (.int _)⟩
  | bool i => cases h; exact .inr ⟨i, by rw [hv.bl], r.val (.int _)⟩
  | _ => cases h
def gMax2 : PyData → PyData → Option Rs
  | .int i, .int j => some (.im (.int (if j > i then j else i)))
  | _, _ => none
def gMin2 : PyData → PyData → Option Rs
  | .int i, .int j => some (.im (.int (if j < i then j else i)))
  | _, _ => none
theorem opMax2 : OpN (fun xs H Q => ∃ i j, xs = [.int i, .int j] ∧ Q (.int (if j > i then j else i)) H) (g2 gMax2) := opN2 fun H F v w d e o Q s hv hw h r => by
  cases d <;> cases e <;> first
    | cases h; done
    | (cases h; exact ⟨_, _, by rw [hv.int, hw.int], r.val (.int _)⟩)
theorem opMin2 : OpN (fun xs H Q => ∃ i j, xs = [.int i, .int j] ∧ Q (.int (if j < i then j else i)) H) (g2 gMin2) := opN2 fun H F v w d e o Q s hv hw h r => by
  cases d <;> cases e <;> first
    | cases h; done
    | (cases h; exact ⟨_, _, by rw [hv.int, hw.int], r.val (.int _)⟩)
/-- bools of a list -/
def boolsOf : List PyData → Option (List Bool)
  | [] => some []
  | .bool i :: r => do
    let is ← boolsOf r
    some (i :: is)
  | _ :: _ => none
theorem boolsOf_some : ∀ {ds : List PyData} {ns : List Bool}, boolsOf ds = some ns → ds = ns.map .bool
  | [], _, h => by cases h; rfl
  | .bool i :: r, ns, h => by
    obtain ⟨is, e, h⟩ := bind_some h
    cases h
    rw [List.map_cons, boolsOf_some e]
  | .none :: _, _, h => by cases h
  | .int _ :: _, _, h => by cases h
  | .str _ :: _, _, h => by cases h
  | .list _ :: _, _, h => by cases h
  | .tuple _ :: _, _, h => by cases h
  | .dict _ :: _, _, h => by cases h
theorem boolsOf_map : ∀ ns : List Bool, boolsOf (ns.map .bool) = some ns
  | [] => rfl
  | n :: ns => by
    show (boolsOf (ns.map .bool) >>= fun is => some (n :: is)) = _
    rw [boolsOf_map ns]; rfl
def gAll : PyData → Option Rs
  | .list ds => do
    let ns ← boolsOf ds
    some (.im (.bool (ns.all id)))
  | _ => none
theorem opAll {K : PySem.W.Frag} : OpN (rAll K) (g1 gAll) := opN1 fun H F v d o Q s hv h r => by
  cases d with
  | list ds =>
    obtain ⟨ns, e, h⟩ := bind_some h
    cases h
    have e' := boolsOf_some e
    subst e'
    obtain ⟨a, xs, rfl, h1, z, ra⟩ := hv.lst s
    rw [ra.bls] at h1
    exact ⟨a, ns, rfl, SqL.of h1, r.val (.bl _)⟩
  | _ => cases h
end Dn

set_option Elab.async false
set_option linter.all false
set_option maxRecDepth 100000
set_option maxHeartbeats 4000000
/-! Dn7: statements, targets, loops. -/
namespace Dn
open PySem PySem.Spec PyProof.Rows L2

/-! ### a name is stored -/
/-- no slot is only looked at (so it is outside comprehensions) -/
def noRo : Rho → Bool
  | [] => true
  | .ro _ :: _ => false
  | _ :: r => noRo r
theorem noRo_at : ∀ {ρ : Rho} {i : Nat} {d : PyData}, noRo ρ = true → ρ[i]? ≠ some (.ro d)
  | [], _, _, _, e => by simp at e
  | s :: r, 0, d, h, e => by
    simp at e
    subst e
    cases h
  | s :: r, i + 1, d, h, e => by
    have h' : noRo r = true := by cases s <;> first | exact h | cases h
    exact noRo_at h' (by simpa using e)
def stV (ρ : Rho) (i : Nat) : Vl → Option Rho
  | .im d => some (ρ.set i (.im d))
  | .ow d => if noRo ρ = true then some (ρ.set i (.ow d)) else none
  | .so => some (ρ.set i .so)
  | .bo j => match ρ[j]? with
    | some (.im d) => some (ρ.set i (.im d))
    | some (.ow d) => if j = i then some ρ else some ((ρ.set j (.im d)).set i (.im d))
    | _ => none
theorem set_self {α : Type} {l : List α} {i : Nat} {a : α} (h : l[i]? = some a) : l.set i a = l := by
  apply List.ext_getElem?
  intro j
  by_cases hj : i = j
  · subst hj
    rw [List.getElem?_set_self (List.getElem?_eq_some_iff.mp h).1, h]
  · rw [List.getElem?_set_ne hj]
section
variable {B : Bs} {σ : St} {H F : Hp} {ρ ρ' : Rho} {S S' : Src}
theorem stV_ok (E : DEnv B σ H F ρ S) {i : Nat} {v : V} {r : Vl} (ok : VOk B σ H F ρ v r) (e : stV ρ i r = some ρ') : ∃ F', DEnv B (σ.set i (some v)) H F' ρ' S ∧ Sub F F' := by
  cases r with
  | im d => cases e; exact ⟨F, E.store (s := .im d) ⟨v, rfl, ok⟩ (fun h => by cases h), Sub.refl _⟩
  | ow d =>
    replace e : (if noRo ρ = true then some (ρ.set i (.ow d)) else none) = some ρ' := e
    by_cases hr : noRo ρ = true
    case neg => rw [if_neg hr] at e; cases e
    rw [if_pos hr] at e
    cases e
    obtain ⟨a, rfl, h2, h3, h4, h5⟩ := ok
    refine ⟨F, E.store (s := .ow d) ⟨a, rfl, h2, h3, h4, fun z => h5 (.inl z), fun z => h5 (.inr (.inl z))⟩ (fun _ j t b hj q1 q2 q3 q4 => ?_), Sub.refl _⟩
    cases q3
    cases t with
    | ow e => exact h5 (.inr (.inr ⟨j, e, q1, q4⟩))
    | ro e => exact noRo_at hr q1
    | _ => cases q2
  | bo j =>
    have e : (match ρ[j]? with
      | some (.im d) => some (ρ.set i (.im d))
      | some (.ow d) => if j = i then some ρ else some ((ρ.set j (.im d)).set i (.im d))
      | _ => none) = some ρ' := e
    have ok : σ[j]? = some (some v) := ok
    cases q : ρ[j]? with
    | none => rw [q] at e; cases e
    | some t =>
      rw [q] at e
      cases t with
      | im d =>
        cases e
        obtain ⟨w, h1, h2⟩ := E.sl j _ q
        rw [ok] at h1; cases h1
        exact ⟨F, E.store (s := .im d) ⟨v, rfl, h2⟩ (fun h => by cases h), Sub.refl _⟩
      | ow d =>
        replace e : (if j = i then some ρ else some ((ρ.set j (.im d)).set i (.im d))) = some ρ' := e
        by_cases hij : j = i
        · rw [if_pos hij] at e
          cases e
          subst hij
          rw [set_self ok]
          exact ⟨F, E, Sub.refl _⟩
        · rw [if_neg hij] at e
          cases e
          obtain ⟨a, F', h1, h2, h3, h4⟩ := E.fzSlot q
          rw [ok] at h1; cases h1
          exact ⟨F', h3.store (s := .im d) ⟨_, rfl, h2⟩ (fun h => by cases h), h4.mono⟩
      | _ => cases e
  | so => cases e; exact ⟨F, E.store (s := .so) (by rw [show v = .ref B.a0 from ok]; rfl) (fun h => by cases h), Sub.refl _⟩
end

/-! ### statements -/
def sNil : SS := fun ρ S => some (.nx, ρ, S)
def sSeq (m n : SS) : SS := fun ρ S => do
  let (fl, ρ1, S1) ← m ρ S
  match fl with
  | .nx => n ρ1 S1
  | fl => some (fl, ρ1, S1)
def sExpr (f : SE) : SS := fun ρ S => do
  let (_, ρ1, S1) ← f ρ S
  some (.nx, ρ1, S1)
def sSet (i : Nat) (f : SE) : SS := fun ρ S => do
  let (r, ρ1, S1) ← f ρ S
  let ρ2 ← stV ρ1 i r
  some (.nx, ρ2, S1)
def sRet (f : SE) : SS := fun ρ S => do
  let (r, ρ1, S1) ← f ρ S
  let (s, ρ2) ← fz ρ1 r
  match s with
  | .im d => some (.rt d, ρ2, S1)
  | _ => none
def sRetN : SS := fun ρ S => some (.rt .none, ρ, S)
def sIf (t : STt) (m n : SS) : SS := fun ρ S => do
  let (c, ρ1, S1) ← t ρ S
  if c then m ρ1 S1 else n ρ1 S1
def sBrk : SS := fun ρ S => some (.bk, ρ, S)
def sCnt : SS := fun ρ S => some (.ct, ρ, S)
/-- what is wanted at the end of a statement -/
def KS (D : Ends) (fl : Fl) (σ : St) (H F : Hp) : Prop := match fl with
  | .nx => D.nx σ H
  | .bk => D.bk σ H
  | .ct => D.ct σ H
  | .rt d => ∀ v, Rp F v d → D.rt v H
section
variable {X : Cx} {e c : Expr} {st : Stmt} {rest a b : List Stmt} {f : SE} {t : STt} {m n : SS} {pos : Pos}
theorem dSNil : PSs X [] (tS sNil) := by
  refine PSs.imp pss_nil ?_
  rintro D σ H ⟨B, F, ρ, S, fl, ρ', S', E, e, k⟩
  cases e
  exact k σ H F E (Sub.refl _)
theorem dSeq (h1 : PS X st (tS m)) (h2 : PSs X rest (tS n)) : PSs X (st :: rest) (tS (sSeq m n)) := by
  refine PSs.imp (pss_cons h1 h2) ?_
  rintro D σ H ⟨B, F, ρ, S, fl, ρ', S', E, e, k⟩
  obtain ⟨⟨f1, ρ1, S1⟩, e1, e⟩ := bind_some e
  refine ⟨B, F, ρ, S, f1, ρ1, S1, E, e1, fun σ1 H1 F1 E1 s1 => ?_⟩
  cases f1 with
  | nx => exact ⟨B, F1, ρ1, S1, fl, ρ', S', E1, e, fun σ' H' F' E' s' => k σ' H' F' E' (s1.trans s')⟩
  | bk => cases e; exact k σ1 H1 F1 E1 s1
  | ct => cases e; exact k σ1 H1 F1 E1 s1
  | rt d => cases e; exact k σ1 H1 F1 E1 s1
theorem dOne (h1 : PS X st (tS m)) : PSs X [st] (tS m) := pss_one h1
theorem dExpr (he : PE X e (tE f)) (hs : swapsWith e none pos.line X.env = pure false := by rfl) : PS X (.Expr e pos) (tS (sExpr f)) := by
  refine PS.imp (ps_expr he hs) ?_
  rintro D σ H ⟨B, F, ρ, S, fl, ρ', S', E, e, k⟩
  obtain ⟨⟨r, ρ1, S1⟩, e1, e⟩ := bind_some e
  cases e
  exact ⟨B, F, ρ, S, r, _, _, E, e1, fun v H1 F1 E1 x _ _ _ => k σ H1 F1 E1 x.mono⟩
theorem dDoc {x j pos'} : PS X (.Expr (.Constant (.str x) j pos) pos') (tS sNil) := by
  refine PS.imp ps_doc ?_
  rintro D σ H ⟨B, F, ρ, S, fl, ρ', S', E, e, k⟩
  cases e
  exact k σ H F E (Sub.refl _)
theorem dPass : PS X (.Pass pos) (tS sNil) := by
  refine PS.imp ps_pass ?_
  rintro D σ H ⟨B, F, ρ, S, fl, ρ', S', E, e, k⟩
  cases e
  exact k σ H F E (Sub.refl _)
theorem dBrk : PS X (.Break pos) (tS sBrk) := by
  refine PS.imp ps_break ?_
  rintro D σ H ⟨B, F, ρ, S, fl, ρ', S', E, e, k⟩
  cases e
  exact k σ H F E (Sub.refl _)
theorem dCnt : PS X (.Continue pos) (tS sCnt) := by
  refine PS.imp ps_continue ?_
  rintro D σ H ⟨B, F, ρ, S, fl, ρ', S', E, e, k⟩
  cases e
  exact k σ H F E (Sub.refl _)
theorem dRetN : PS X (.Return none pos) (tS sRetN) := by
  refine PS.imp ps_retN ?_
  rintro D σ H ⟨B, F, ρ, S, fl, ρ', S', E, e, k⟩
  cases e
  exact k σ H F E (Sub.refl _) .non .non
theorem dRet (he : PE X e (tE f)) : PS X (.Return (some e) pos) (tS (sRet f)) := by
  refine PS.imp (ps_ret he) ?_
  rintro D σ H ⟨B, F, ρ, S, fl, ρ', S', E, e, k⟩
  obtain ⟨⟨r, ρ1, S1⟩, e1, e⟩ := bind_some e
  obtain ⟨⟨s, ρ2⟩, e2, e⟩ := bind_some e
  refine ⟨B, F, ρ, S, r, _, _, E, e1, fun v H1 F1 E1 x1 _ ok _ => ?_⟩
  obtain ⟨F2, a2, E2, x2, _⟩ := fz_ok E1 ok e2
  cases s with
  | im d => cases e; exact k σ H1 F2 E2 (x1.mono.trans x2.mono) v a2
  | _ => cases e
theorem dIfS (hc : PT X c (tT t)) (ha : PSs X a (tS m)) (hb : PSs X b (tS n)) : PS X (.If c a b pos) (tS (sIf t m n)) := by
  refine PS.imp (ps_if hc ha hb) ?_
  rintro D σ H ⟨B, F, ρ, S, fl, ρ', S', E, e, k⟩
  obtain ⟨⟨c', ρ1, S1⟩, e1, e⟩ := bind_some e
  refine ⟨B, F, ρ, S, c', ρ1, S1, E, e1, fun H1 F1 E1 x1 _ => ?_⟩
  cases c' with
  | true => rw [if_pos rfl]; exact ⟨B, F1, ρ1, S1, fl, ρ', S', E1, e, fun σ' H' F' E' s' => k σ' H' F' E' (x1.mono.trans s')⟩
  | false => rw [if_neg Bool.false_ne_true]; exact ⟨B, F1, ρ1, S1, fl, ρ', S', E1, e, fun σ' H' F' E' s' => k σ' H' F' E' (x1.mono.trans s')⟩
theorem set_imp {i : Nat} {D : Ends} {σ : St} {H : Hp} (q : tS (sSet i f) D σ H) : tAsg (tE f) (gName i) D σ H := by
  obtain ⟨B, F, ρ, S, fl, ρ', S', E, e, k⟩ := q
  obtain ⟨⟨r, ρ1, S1⟩, e1, e⟩ := bind_some e
  obtain ⟨ρ2, e2, e⟩ := bind_some e
  cases e
  refine ⟨B, F, ρ, S, r, _, _, E, e1, fun v H1 F1 E1 x1 _ ok _ => ?_⟩
  obtain ⟨F2, E2, s2⟩ := stV_ok E1 ok e2
  exact k _ H1 F2 E2 (x1.mono.trans s2)
theorem dSet {i : Nat} {x : Str} {pos' : Pos} (hN : X.N.Nodup) (hi : X.N[i]? = some x) (hx : Loc X.env.scope x) (he : PE X e (tE f)) (hs : swapsWith e (some (.Name x pos')) pos.line X.env = pure false := by rfl) (hf : X.fn x = true ∨ X.env.scope.names.lookup x = some .local := by first | exact .inl rfl | exact .inr rfl | assumption) :
    PS X (.Assign [.Name x pos'] e pos) (tS (sSet i f)) := PS.imp (ps_set hN hi hx he hs hf) fun _ _ _ q => set_imp q
end

/-! ### targets -/
/-- the slots but those of l are as they were -/
def Agr (l : List Nat) (σ σ' : St) : Prop := σ'.length = σ.length ∧ ∀ j, j ∉ l → σ'[j]? = σ[j]?
theorem Agr.refl (l : List Nat) (σ : St) : Agr l σ σ := ⟨rfl, fun _ _ => rfl⟩
theorem Agr.trans {l l' : List Nat} {σ σ1 σ2 : St} (a : Agr l σ σ1) (b : Agr l' σ1 σ2) : Agr (l ++ l') σ σ2 :=
  ⟨b.1.trans a.1, fun j h => (b.2 j fun z => h (List.mem_append_right _ z)).trans (a.2 j fun z => h (List.mem_append_left _ z))⟩
/-- a frozen datum is stored -/
abbrev SG := PyData → Rho → Option Rho
abbrev SGs := List PyData → Rho → Option Rho
def gNm (i : Nat) : SG := fun d ρ => some (ρ.set i (.im d))
def gsNil : SGs
  | [], ρ => some ρ
  | _, _ => none
def gsCons (g : SG) (gs : SGs) : SGs
  | d :: ds, ρ => do
    let ρ1 ← g d ρ
    gs ds ρ1
  | _, _ => none
def gTp (gs : SGs) : SG := fun d ρ => do
  let ds ← itemsOf d
  gs ds ρ
def tG (l : List Nat) (g : SG) : TG := fun v σ H Q => ∃ B F ρ S d ρ', DEnv B σ H F ρ S ∧ Rp F v d ∧ g d ρ = some ρ' ∧ ∀ σ', DEnv B σ' H F ρ' S → Agr l σ σ' → Q σ' H
def tGs (l : List Nat) (g : SGs) : TGs := fun vs σ H Q => ∃ B F ρ S ds ρ', DEnv B σ H F ρ S ∧ RpA F vs ds ∧ g ds ρ = some ρ' ∧ ∀ σ', DEnv B σ' H F ρ' S → Agr l σ σ' → Q σ' H
theorem PG.imp {X : Cx} {e : Expr} {t t' : TG} (h : PG X e t) (k : ∀ v σ H Q, t' v σ H Q → t v σ H Q) : PG X e t' := ⟨fun pins s σ H v u Q I r q => h.run pins s σ H v u Q I r (k v σ H Q q)⟩
theorem PGs.imp {X : Cx} {e : List Expr} {t t' : TGs} (h : PGs X e t) (k : ∀ v σ H Q, t' v σ H Q → t v σ H Q) : PGs X e t' := ⟨fun pins s σ H v u Q I r q => h.run pins s σ H v u Q I r (k v σ H Q q)⟩
theorem PG.or {X : Cx} {e : Expr} {t t' : TG} (h : PG X e t) (h' : PG X e t') : PG X e (fun v σ H Q => t v σ H Q ∨ t' v σ H Q) := ⟨fun pins s σ H v u Q I r q => by
  rcases q with q | q
  · exact h.run pins s σ H v u Q I r q
  · exact h'.run pins s σ H v u Q I r q⟩
section
variable {X : Cx} {pos : Pos}
theorem dGn {i : Nat} {x : Str} (hN : X.N.Nodup) (hi : X.N[i]? = some x) (hx : Loc X.env.scope x) (hf : X.fn x = true ∨ X.env.scope.names.lookup x = some .local := by first | exact .inl rfl | exact .inr rfl | assumption) : PG X (.Name x pos) (tG [i] (gNm i)) := by
  refine PG.imp (pg_name hN hi hx hf) ?_
  rintro v σ H Q ⟨B, F, ρ, S, d, ρ', E, r, e, k⟩
  cases e
  refine k _ (E.store (s := .im d) ⟨v, rfl, r⟩ fun h => by cases h) ⟨by rw [List.length_set], fun j hj => ?_⟩
  rw [List.getElem?_set_ne (by intro z; exact hj (by simp [z]))]
theorem dG0 : PGs X [] (tGs [] gsNil) := by
  refine PGs.imp pgs_nil ?_
  rintro v σ H Q ⟨B, F, ρ, S, ds, ρ', E, r, e, k⟩
  cases r with
  | nil => cases e; exact ⟨rfl, k σ E (Agr.refl _ _)⟩
  | cons _ _ => cases e
theorem dG1 {e : Expr} {es : List Expr} {l l' : List Nat} {g : SG} {gs : SGs} (h1 : PG X e (tG l g)) (h2 : PGs X es (tGs l' gs)) (hs : (assignEach (e :: es) X.env).map (·.2) = assign e X.env :: (assignEach es X.env).map (·.2) := by rfl) : PGs X (e :: es) (tGs (l ++ l') (gsCons g gs)) := by
  refine PGs.imp (pgs_cons h1 h2 hs) ?_
  rintro v σ H Q ⟨B, F, ρ, S, ds, ρ', E, r, e, k⟩
  cases r with
  | nil => cases e
  | cons r rr =>
    obtain ⟨ρ1, e1, e⟩ := bind_some e
    refine ⟨_, _, rfl, B, F, ρ, S, _, ρ1, E, r, e1, fun σ1 E1 a1 => ⟨B, F, ρ1, S, _, ρ', E1, rr, e, fun σ2 E2 a2 => k σ2 E2 (a1.trans a2)⟩⟩
/-- (a, b, ..) = a tuple, a list -/
theorem dGt {es : List Expr} {k n : Nat} {l : List Nat} {gs : SGs} (hc : X.calm = true) (h : PGs X es (tGs l gs)) (hlen : ∀ ds ρ ρ', gs ds ρ = some ρ' → ds.length = n)
    (hn : (assignEach es X.env).length = n := by rfl) (hst : (assignEach es X.env).findIdx? (·.1) = none := by rfl) : PG X (.Tuple es k pos) (tG l (gTp gs)) := by
  refine PG.imp (PG.or (pg_tup hc h hn hst) (pg_unl hc h hn hst)) ?_
  rintro v σ H Q ⟨B, F, ρ, S, d, ρ', E, r, e, k⟩
  obtain ⟨ds, e1, e⟩ := bind_some e
  have hl := hlen _ _ _ e
  cases r with
  | tup h1 z ra =>
    cases e1
    exact .inl ⟨_, _, rfl, SqT.of (E.sub _ _ h1), ra.len.trans hl, B, F, ρ, S, _, ρ', E, ra, e, k⟩
  | lst h1 z ra =>
    cases e1
    exact .inr ⟨_, _, rfl, SqL.of (E.sub _ _ h1), ra.len.trans hl, B, F, ρ, S, _, ρ', E, ra, e, k⟩
  | _ => cases e1
theorem gl0 : ∀ ds ρ ρ', gsNil ds ρ = some ρ' → ds.length = 0 := fun ds ρ ρ' h => by
  cases ds with
  | nil => rfl
  | cons _ _ => cases h
theorem gl1 {g : SG} {gs : SGs} {n : Nat} (h : ∀ ds ρ ρ', gs ds ρ = some ρ' → ds.length = n) : ∀ ds ρ ρ', gsCons g gs ds ρ = some ρ' → ds.length = n + 1 := fun ds ρ ρ' e => by
  cases ds with
  | nil => cases e
  | cons d ds =>
    obtain ⟨ρ1, _, e⟩ := bind_some e
    rw [List.length_cons, h _ _ _ e]
/-- target = value, frozen -/
def sAsg (g : SG) (f : SE) : SS := fun ρ S => do
  let (r, ρ1, S1) ← f ρ S
  let (s, ρ2) ← fz ρ1 r
  match s with
  | .im d => do
    let ρ3 ← g d ρ2
    some (.nx, ρ3, S1)
  | _ => none
theorem asg_imp {l : List Nat} {g : SG} {f : SE} {D : Ends} {σ : St} {H : Hp} (q : tS (sAsg g f) D σ H) : tAsg (tE f) (tG l g) D σ H := by
  obtain ⟨B, F, ρ, S, fl, ρ', S', E, e, k⟩ := q
  obtain ⟨⟨r, ρ1, S1⟩, e1, e⟩ := bind_some e
  obtain ⟨⟨s, ρ2⟩, e2, e⟩ := bind_some e
  refine ⟨B, F, ρ, S, r, _, _, E, e1, fun v H1 F1 E1 x1 _ ok _ => ?_⟩
  obtain ⟨F2, a2, E2, x2, _⟩ := fz_ok E1 ok e2
  cases s with
  | im d =>
    obtain ⟨ρ3, e3, e⟩ := bind_some e
    cases e
    exact ⟨B, F2, ρ2, _, d, _, E2, a2, e3, fun σ' E' _ => k σ' H1 F2 E' (x1.mono.trans x2.mono)⟩
  | _ => cases e
theorem dAsg {tg e : Expr} {l : List Nat} {g : SG} {f : SE} (he : PE X e (tE f)) (hg : PG X tg (tG l g)) (hs : swapsWithSole [tg] e pos.line X.env = pure false := by rfl) (hw : swappedStores [tg] e X.env = pure none := by rfl)
    (h1 : (assignEach [tg] X.env).map (·.2) = [assign tg X.env] := by rfl) : PS X (.Assign [tg] e pos) (tS (sAsg g f)) := PS.imp (ps_asg he hg hs hw h1) fun _ _ _ q => asg_imp q
end
end Dn

set_option Elab.async false
set_option linter.all false
set_option maxRecDepth 100000
set_option maxHeartbeats 4000000
/-! Dn8: a, b = x, y; loops. -/
namespace Dn
open PySem PySem.Spec PyProof.Rows L2

/-! ### a, b = x, y of plain local names -/
/-- the values are stored one after another, as they were evaluated (aliases are frozen first) -/
def stVs : Rho → List Nat → List Vl → Option Rho
  | ρ, [], [] => some ρ
  | ρ, i :: is, r :: rs => do
    let ρ1 ← stV ρ i r
    stVs ρ1 is rs
  | _, _, _ => none
/-- no value stands in a slot that may change -/
def noBo : List Vl → Bool
  | [] => true
  | .bo _ :: _ => false
  | _ :: rs => noBo rs
def parSt (ρ : Rho) (is : List Nat) (rs : List Vl) : Option Rho :=
  if noBo rs = true then stVs ρ is rs else do
    let (ss, ρ2) ← fzs ρ rs
    let ds ← imsOf ss
    stVs ρ2 is (ds.map .im)
def sPar (is : List Nat) (g : SA) : SS := fun ρ S => do
  let (rs, ρ1, S1) ← g ρ S
  let ρ2 ← parSt ρ1 is rs
  some (.nx, ρ2, S1)
section
variable {B : Bs} {σ : St} {H F : Hp} {ρ ρ' : Rho} {S S' : Src}
/-- a stored value leaves the others as they are -/
theorem VOk.store {i : Nat} {v w : V} {r u : Vl} (hw : VOk B σ H F ρ w u) (hv : VOk B σ H F ρ v r) (e : stV ρ i r = some ρ') (nb : ∀ j, r ≠ .bo j) (nu : ∀ j, u ≠ .bo j) (hd : ∀ d e a, r = .ow d → u = .ow e → v = .ref a → w ≠ .ref a) : VOk B (σ.set i (some v)) H F ρ' w u := by
  cases u with
  | im d => exact hw
  | ow d =>
    obtain ⟨a, rfl, h2, h3, h4, h5⟩ := hw
    refine ⟨a, rfl, h2, h3, h4, fun z => ?_⟩
    have old : ∀ (s : Sl), ρ' = ρ.set i s → (∀ d, s = .ow d → v ≠ .ref a) → False := by
      rintro s rfl hs
      rcases z with z | z | ⟨j, e, q1, q2⟩
      · exact h5 (.inl z)
      · exact h5 (.inr (.inl z))
      · rcases set_get q1 with ⟨rfl, q, hl⟩ | ⟨hj, q⟩
        · by_cases hs' : i < σ.length
          · rw [List.getElem?_set_self hs'] at q2
            cases q2
            exact hs e q.symm rfl
          · rw [List.getElem?_eq_none (by rw [List.length_set]; omega)] at q2; cases q2
        · rw [List.getElem?_set_ne hj] at q2
          exact h5 (.inr (.inr ⟨j, e, q, q2⟩))
    cases r with
    | im e => cases e; exact old _ rfl fun d h => by cases h
    | ow e' =>
      replace e : (if noRo ρ = true then some (ρ.set i (.ow e')) else none) = some ρ' := e
      by_cases hr : noRo ρ = true
      · rw [if_pos hr] at e
        cases e
        exact old _ rfl fun _ _ hv' => hd _ _ _ rfl rfl hv' rfl
      · rw [if_neg hr] at e; cases e
    | bo j => exact absurd rfl (nb j)
    | so => cases e; exact old _ rfl fun d h => by cases h
  | bo j => exact absurd rfl (nu j)
  | so => exact hw
theorem stV_F (E : DEnv B σ H F ρ S) {i : Nat} {v : V} {r : Vl} (ok : VOk B σ H F ρ v r) (e : stV ρ i r = some ρ') (nb : ∀ j, r ≠ .bo j) : DEnv B (σ.set i (some v)) H F ρ' S := by
  cases r with
  | im d => cases e; exact E.store (s := .im d) ⟨v, rfl, ok⟩ fun h => by cases h
  | ow d =>
    replace e : (if noRo ρ = true then some (ρ.set i (.ow d)) else none) = some ρ' := e
    by_cases hr : noRo ρ = true
    case neg => rw [if_neg hr] at e; cases e
    rw [if_pos hr] at e
    cases e
    obtain ⟨a, rfl, h2, h3, h4, h5⟩ := ok
    refine E.store (s := .ow d) ⟨a, rfl, h2, h3, h4, fun z => h5 (.inl z), fun z => h5 (.inr (.inl z))⟩ fun _ j t b hj q1 q2 q3 q4 => ?_
    cases q3
    cases t with
    | ow e => exact h5 (.inr (.inr ⟨j, e, q1, q4⟩))
    | ro e => exact noRo_at hr q1
    | _ => cases q2
  | bo j => exact absurd rfl (nb j)
  | so => cases e; exact E.store (s := .so) (by rw [show v = .ref B.a0 from ok]; rfl) fun h => by cases h
theorem noBo_cons {r : Vl} {rs : List Vl} (h : noBo (r :: rs) = true) : (∀ j, r ≠ .bo j) ∧ noBo rs = true := by
  cases r with
  | bo j => cases h
  | im d => exact ⟨(fun j z => by cases z), h⟩
  | ow d => exact ⟨(fun j z => by cases z), h⟩
  | so => exact ⟨(fun j z => by cases z), h⟩
theorem VsOk.store {i : Nat} {v : V} {r : Vl} : ∀ {vs : List V} {rs : List Vl}, VsOk B σ H F ρ vs rs → VOk B σ H F ρ v r → stV ρ i r = some ρ' → (∀ j, r ≠ .bo j) → noBo rs = true →
    (∀ d a, r = .ow d → v = .ref a → ∀ (j : Nat) (e : PyData), rs[j]? = some (.ow e) → vs[j]? ≠ some (.ref a)) → VsOk B (σ.set i (some v)) H F ρ' vs rs
  | _, _, .nil, _, _, _, _, _ => .nil
  | _, _, .cons o n t, hv, e, nb, nu, hd => .cons (o.store hv e nb (noBo_cons nu).1 fun d e' a h1 h2 h3 h4 => hd d a h1 h3 0 e' (by rw [h2]; rfl) (by rw [h4]; rfl)) n
      (VsOk.store t hv e nb (noBo_cons nu).2 fun d a h1 h2 j e' h3 h4 => hd d a h1 h2 (j + 1) e' (by simpa using h3) (by simpa using h4))
/-- the slots' values, written in order -/
def setVs : St → List Nat → List V → St
  | σ, i :: is, v :: vs => setVs (σ.set i (some v)) is vs
  | σ, _, _ => σ
theorem stVs_ok : ∀ {is : List Nat} {vs : List V} {rs : List Vl} {σ : St} {ρ : Rho}, DEnv B σ H F ρ S → VsOk B σ H F ρ vs rs → noBo rs = true → stVs ρ is rs = some ρ' → DEnv B (setVs σ is vs) H F ρ' S ∧ vs.length = is.length := by
  intro is
  induction is with
  | nil =>
    intro vs rs σ ρ E ok nb e
    cases ok with
    | nil => cases e; exact ⟨E, rfl⟩
    | cons _ _ _ => cases e
  | cons i is ih =>
    intro vs rs σ ρ E ok nb e
    cases ok with
    | nil => cases e
    | cons o n t =>
      obtain ⟨ρ1, e1, e⟩ := bind_some e
      have nb' := noBo_cons nb
      obtain ⟨h1, h2⟩ := ih (stV_F E o e1 nb'.1) (t.store o e1 nb'.1 nb'.2 n) nb'.2 e
      exact ⟨h1, by rw [List.length_cons, List.length_cons, h2]⟩
theorem noBo_map : ∀ ds : List PyData, noBo (ds.map .im) = true
  | [] => rfl
  | _ :: ds => noBo_map ds
theorem RpA.vs : ∀ {vs : List V} {ds : List PyData}, RpA F vs ds → VsOk B σ H F ρ vs (ds.map .im)
  | _, _, .nil => .nil
  | _, _, .cons h r => .cons h (fun d a z => by cases z) (RpA.vs r)
theorem parSt_ok {is : List Nat} {vs : List V} {rs : List Vl} (E : DEnv B σ H F ρ S) (ok : VsOk B σ H F ρ vs rs) (e : parSt ρ is rs = some ρ') : ∃ F', DEnv B (setVs σ is vs) H F' ρ' S ∧ vs.length = is.length ∧ Sub F F' := by
  unfold parSt at e
  by_cases nb : noBo rs = true
  · rw [if_pos nb] at e
    obtain ⟨q1, q2⟩ := stVs_ok E ok nb e
    exact ⟨F, q1, q2, Sub.refl _⟩
  · rw [if_neg nb] at e
    obtain ⟨⟨ss, ρ2⟩, e2, e⟩ := bind_some e
    obtain ⟨ds, e3, e⟩ := bind_some e
    obtain ⟨F2, a2, E2, x2, _⟩ := fzs_ok E ok e2
    obtain ⟨q1, q2⟩ := stVs_ok E2 (a2.ims e3).vs (noBo_map ds) e
    exact ⟨F2, q1, q2, x2.mono⟩
theorem par_imp {is : List Nat} {g : SA} {D : Ends} (q : tS (sPar is g) D σ H) : tA g σ H fun vs H1 => vs.length = is.length ∧ D.nx (setVs σ is vs) H1 := by
  obtain ⟨B, F, ρ, S, fl, ρ', S', E, e, k⟩ := q
  obtain ⟨⟨rs, ρ1, S1⟩, e1, e⟩ := bind_some e
  obtain ⟨ρ2, e2, e⟩ := bind_some e
  cases e
  refine ⟨B, F, ρ, S, rs, ρ1, _, E, e1, fun vs H1 F1 E1 x1 _ ok _ => ?_⟩
  obtain ⟨F2, E2, hl, s2⟩ := parSt_ok E1 ok e2
  exact ⟨hl, k _ H1 F2 E2 (x1.mono.trans s2)⟩
end
theorem tA_mono {g : SA} {σ : St} {H : Hp} {R R' : List V → Hp → Prop} (h : tA g σ H R) (k : ∀ vs H1, R vs H1 → R' vs H1) : tA g σ H R' := by
  obtain ⟨B, F, ρ, S, rs, ρ1, S1, E, e, q⟩ := h
  exact ⟨B, F, ρ, S, rs, ρ1, S1, E, e, fun vs H1 F1 E1 x o ok fr => k vs H1 (q vs H1 F1 E1 x o ok fr)⟩
section
variable {X : Cx} {a b c : Expr} {g : SA} {pos : Pos}
theorem dPar2 {i j : Nat} {x y : Str} {px py pt : Pos} {kt k2 pt2} (hc : X.calm = true) (hN : X.N.Nodup) (hi : X.N[i]? = some x) (hj : X.N[j]? = some y) (hij : i ≠ j)
    (hx : X.env.scope.names.lookup x = some .local) (hy : X.env.scope.names.lookup y = some .local) (ha : PA X [a, b] (tA g))
    (hw : swappedStores [.Tuple [.Name x px, .Name y py] kt pt] (.Tuple [a, b] k2 pt2) X.env = pure (some [x, y]))
    (hs : swapsWithSole [.Tuple [.Name x px, .Name y py] kt pt] (.Tuple [a, b] k2 pt2) pos.line X.env = pure false := by rfl) :
    PS X (.Assign [.Tuple [.Name x px, .Name y py] kt pt] (.Tuple [a, b] k2 pt2) pos) (tS (sPar [i, j] g)) := by
  refine PS.imp (ps_par hc hN hi hj hij hx hy ha hw hs) fun D σ H q => ?_
  refine tA_mono (par_imp q) ?_
  rintro vs H1 ⟨hl, k⟩
  match vs, hl, k with
  | [v, w], _, k => exact ⟨v, w, rfl, k⟩
theorem dPar3 {i j l : Nat} {x y z : Str} {px py pz pt : Pos} {kt k2 pt2} (hc : X.calm = true) (hN : X.N.Nodup) (hi : X.N[i]? = some x) (hj : X.N[j]? = some y) (hl : X.N[l]? = some z) (hij : i ≠ j) (hil : i ≠ l) (hjl : j ≠ l)
    (hx : X.env.scope.names.lookup x = some .local) (hy : X.env.scope.names.lookup y = some .local) (hz : X.env.scope.names.lookup z = some .local) (ha : PA X [a, b, c] (tA g))
    (hw : swappedStores [.Tuple [.Name x px, .Name y py, .Name z pz] kt pt] (.Tuple [a, b, c] k2 pt2) X.env = pure (some [x, y, z]))
    (hs : swapsWithSole [.Tuple [.Name x px, .Name y py, .Name z pz] kt pt] (.Tuple [a, b, c] k2 pt2) pos.line X.env = pure false := by rfl) :
    PS X (.Assign [.Tuple [.Name x px, .Name y py, .Name z pz] kt pt] (.Tuple [a, b, c] k2 pt2) pos) (tS (sPar [i, j, l] g)) := by
  refine PS.imp (ps_par3 hc hN hi hj hl hij hil hjl hx hy hz ha hw hs) fun D σ H q => ?_
  refine tA_mono (par_imp q) ?_
  rintro vs H1 ⟨hl, k⟩
  match vs, hl, k with
  | [u, v, w], _, k => exact ⟨u, v, w, rfl, k⟩
end

/-! ### while -/
def whGo (t : STt) (b : SS) : Nat → SS
  | 0, _, _ => none
  | n + 1, ρ, S => do
    let (c, ρ1, S1) ← t ρ S
    if c then do
      let (fl, ρ2, S2) ← b ρ1 S1
      match fl with
      | .nx => whGo t b n ρ2 S2
      | .ct => whGo t b n ρ2 S2
      | .bk => some (.nx, ρ2, S2)
      | .rt d => some (.rt d, ρ2, S2)
    else some (.nx, ρ1, S1)
/-- turns enough for any loop here -/
def fuel : Nat := 1000000
def sWh (t : STt) (b : SS) : SS := whGo t b fuel
theorem whGo_more {t : STt} {b : SS} {r : Fl × Rho × Src} : ∀ {n m : Nat} {ρ : Rho} {S : Src}, n ≤ m → whGo t b n ρ S = some r → whGo t b m ρ S = some r
  | 0, _, _, _, _, h => by cases h
  | n + 1, 0, _, _, hm, _ => absurd hm (by omega)
  | n + 1, m + 1, ρ, S, hm, h => by
    obtain ⟨⟨c, ρ1, S1⟩, e1, h⟩ := bind_some h
    show (t ρ S >>= fun _ => _) = some r
    rw [e1]
    cases c with
    | false => exact h
    | true =>
      obtain ⟨⟨fl, ρ2, S2⟩, e2, h⟩ := bind_some (show (b ρ1 S1 >>= fun _ => _) = some r from h)
      show (b ρ1 S1 >>= fun _ => _) = some r
      rw [e2]
      cases fl with
      | nx => exact whGo_more (Nat.le_of_succ_le_succ hm) h
      | ct => exact whGo_more (Nat.le_of_succ_le_succ hm) h
      | bk => exact h
      | rt d => exact h
theorem sWh_of {t : STt} {b : SS} {r : Fl × Rho × Src} {n : Nat} {ρ : Rho} {S : Src} (hn : n ≤ fuel) (h : whGo t b n ρ S = some r) : sWh t b ρ S = some r := whGo_more hn h
theorem while_imp {t : STt} {b : SS} {D : Ends} {σ : St} {H : Hp} (q : tS (sWh t b) D σ H) : tWhile (tT t) (tS b) D σ H := by
  obtain ⟨B, F, ρ, S, fl, ρ', S', E, e, k⟩ := q
  refine ⟨fun m σ H => ∃ F1 ρ S, DEnv B σ H F1 ρ S ∧ Sub F F1 ∧ whGo t b m ρ S = some (fl, ρ', S'), ⟨fuel, F, ρ, S, E, Sub.refl _, e⟩, ?_⟩
  rintro m σ1 H1 ⟨F1, ρ1, S1, E1, s1, e1⟩
  cases m with
  | zero => cases e1
  | succ n =>
    obtain ⟨⟨c, ρ2, S2⟩, e2, h⟩ := bind_some e1
    refine ⟨B, F1, ρ1, S1, c, ρ2, S2, E1, e2, fun H2 F2 E2 x2 _ => ?_⟩
    have s2 := s1.trans x2.mono
    cases c with
    | false => cases h; exact iteF (k σ1 H2 F2 E2 s2)
    | true =>
      refine iteT ?_
      obtain ⟨⟨f3, ρ3, S3⟩, e3, h⟩ := bind_some (show (b ρ2 S2 >>= fun _ => _) = some (fl, ρ', S') from h)
      refine ⟨fun σ' H' => ∃ F1 ρ S, DEnv B σ' H' F1 ρ S ∧ Sub F F1 ∧ whGo t b n ρ S = some (fl, ρ', S'), fun σ' H' w => ⟨n, Nat.lt_succ_self n, w⟩, ?_⟩
      refine ⟨B, F2, ρ2, S2, f3, ρ3, S3, E2, e3, fun σ4 H4 F4 E4 s4 => ?_⟩
      cases f3 with
      | nx => exact ⟨F4, ρ3, S3, E4, s2.trans s4, h⟩
      | ct => exact ⟨F4, ρ3, S3, E4, s2.trans s4, h⟩
      | bk => cases h; exact k σ4 H4 F4 E4 (s2.trans s4)
      | rt d => cases h; exact k σ4 H4 F4 E4 (s2.trans s4)
theorem dWhile {X : Cx} {c : Expr} {body : List Stmt} {t : STt} {b : SS} {pos : Pos} (hp : PassesOwn (model X.prog X.w) X.A X.env X.xe) (hc : PT X c (tT t)) (hb : PSs X body (tS b)) : PS X (.While c body [] pos) (tS (sWh t b)) :=
  PS.imp (ps_while hp hc hb) fun _ _ _ q => while_imp q
end Dn

set_option Elab.async false
set_option linter.all false
set_option maxRecDepth 100000
set_option maxHeartbeats 4000000
/-! Dn9: what is walked; for; comprehensions. -/
namespace Dn
open PySem PySem.Spec PyProof.Rows L2

/-- what a turn gives: an item, or a new tuple of items -/
def Yl (Fs : Hp) (Hc : Hp) (x : V) (d : PyData) (H' : Hp) : Prop := (H' = Hc ∧ Rp Fs x d) ∨ ∃ T xs es, x = .ref T ∧ Hc T = none ∧ H' = upd Hc T (.tup xs) ∧ d = .tuple es ∧ RpA Fs xs es ∧ xs.length ≤ sizeLine
/-- J walks ds as long as G stands -/
def ItOk (J : It) (Fs : Hp) (ds : List PyData) (G : Hp) : Prop := ∀ Hc, Sub G Hc → ∀ i, (∀ d, ds[i]? = some d → J.go i Hc ∧ ∀ x H', J.yld i Hc x H' → Yl Fs Hc x d H') ∧ (ds.length ≤ i → J.stop i Hc)
theorem ItOk.more {J : It} {Fs : Hp} {ds : List PyData} {G G' : Hp} (h : ItOk J Fs ds G) (s : Sub G G') : ItOk J Fs ds G' := fun Hc s' => h Hc (s.trans s')
abbrev SIt := Rho → Src → Option (List PyData × Rho × Src)
/-- for a for: what is walked is frozen -/
def tIf (f : SIt) : TI := fun σ H R => ∃ B F ρ S ds ρ' S', DEnv B σ H F ρ S ∧ f ρ S = some (ds, ρ', S') ∧
  ∀ J H' F', DEnv B σ H' F' ρ' S' → Ext (DOwn B σ ρ) F H F' H' → (∀ b, DOwn B σ ρ' b → DOwn B σ ρ b) → ItOk J F' ds F' → R J H'
/-- the heap without the source -/
def noSrc (B : Bs) (H : Hp) : Hp := fun b => if b = B.a0 ∨ b = B.c0 then none else H b
/-- for a comprehension: what is walked stands while only the source is written -/
def tIc (f : SIt) : TI := fun σ H R => ∃ B F ρ S ds ρ' S', DEnv B σ H F ρ S ∧ f ρ S = some (ds, ρ', S') ∧
  ∀ J H' F', DEnv B σ H' F' ρ' S' → Ext (DOwn B σ ρ) F H F' H' → (∀ b, DOwn B σ ρ' b → DOwn B σ ρ b) → ItOk J F' ds (noSrc B H') → R J H'
theorem DEnv.subNo {B : Bs} {σ : St} {H F : Hp} {ρ : Rho} {S : Src} (E : DEnv B σ H F ρ S) : Sub F (noSrc B H) := fun b o e => by
  unfold noSrc
  rw [if_neg ?_]
  · exact E.sub b o e
  · rintro (z | z)
    · rw [z, E.fa] at e; cases e
    · rw [z, E.fc] at e; cases e
theorem PI.imp {X : Cx} {tg e : Expr} {t t' : TI} (h : PI X tg e t) (k : ∀ σ H R, t' σ H R → t σ H R) : PI X tg e t' := ⟨fun pins s σ H R I q => h.run pins s σ H R I (k σ H R q)⟩
/-- what is walked does not lie in the heap -/
def tIa (f : SIt) : TI := fun σ H R => ∃ B F ρ S ds ρ' S', DEnv B σ H F ρ S ∧ f ρ S = some (ds, ρ', S') ∧
  ∀ J H' F', DEnv B σ H' F' ρ' S' → Ext (DOwn B σ ρ) F H F' H' → (∀ b, DOwn B σ ρ' b → DOwn B σ ρ b) → (∀ G, ItOk J F' ds G) → R J H'
theorem PI.ac {X : Cx} {tg e : Expr} {f : SIt} (h : PI X tg e (tIa f)) : PI X tg e (tIc f) := PI.imp h fun σ H R ⟨B, F, ρ, S, ds, ρ', S', E, e, k⟩ => ⟨B, F, ρ, S, ds, ρ', S', E, e, fun J H' F' E' x o w => k J H' F' E' x o (w _)⟩
theorem PI.af {X : Cx} {tg e : Expr} {f : SIt} (h : PI X tg e (tIa f)) : PI X tg e (tIf f) := PI.imp h fun σ H R ⟨B, F, ρ, S, ds, ρ', S', E, e, k⟩ => ⟨B, F, ρ, S, ds, ρ', S', E, e, fun J H' F' E' x o w => k J H' F' E' x o (w _)⟩
theorem tIc_of {f : SIt} {σ : St} {H : Hp} {R : It → Hp → Prop} (h : tIc f σ H R) : tIf f σ H R := by
  obtain ⟨B, F, ρ, S, ds, ρ', S', E, e, k⟩ := h
  exact ⟨B, F, ρ, S, ds, ρ', S', E, e, fun J H' F' E' x o w => k J H' F' E' x o (w.more E'.subNo)⟩
theorem PI.fc {X : Cx} {tg e : Expr} {f : SIt} (h : PI X tg e (tIf f)) : PI X tg e (tIc f) := PI.imp h fun σ H R q => tIc_of q

/-! ### lists and tuples -/
/-- the items of what an expression gives -/
def itE (f : SE) : SIt := fun ρ S => do
  let (r, ρ1, S1) ← f ρ S
  let d ← datOf ρ1 r
  let ds ← itemsOf d
  some (ds, ρ1, S1)
/-- .. frozen -/
def itF (f : SE) : SIt := fun ρ S => do
  let (r, ρ1, S1) ← f ρ S
  let (s, ρ2) ← fz ρ1 r
  match s with
  | .im d => do
    let ds ← itemsOf d
    some (ds, ρ2, S1)
  | _ => none
/-- a list or a tuple is walked -/
def iSeq (K : PySem.W.Frag) (tl : TE) : TI := fun σ H R => tl σ H fun x H1 => ∃ a, x = .ref a ∧ (((∃ xs, SqL K H1 a xs) ∧ R (Itl K a) H1) ∨ ((∃ xs, SqT K H1 a xs) ∧ R (Itt K a) H1))
theorem pi_seq {X : Cx} {tg l : Expr} {tl : TE} (hl : PE X l tl) : PI X tg l (iSeq X.K tl) := by
  refine ⟨fun pins s σ H R I h => ?_⟩
  refine thn (hl.run pins s σ H _ I h) fun v s1 ⟨x, H1, I1, r1, a, ex, q⟩ => ?_
  subst ex
  obtain rfl : v = Value.ref a := r1
  have fp : ∀ b ∈ [s1.heap.objs.size], FpOk X pins H1 b := fun b hb => by
    obtain rfl : b = s1.heap.objs.size := by simpa using hb
    exact I1.fpOk (Nat.le_refl _) (I1.hok.fresh (Nat.le_refl _))
  rcases q with ⟨⟨xs, hq⟩, q⟩ | ⟨⟨xs, hq⟩, q⟩
  · obtain ⟨its, rv, p, hz⟩ := I1.list hq
    refine wpAny_pyIter_list p.isList ⟨_, [s1.heap.objs.size], _, _, H1, rfl, I1.kept (t' := s1.toks) (fun b o e => Heap.get?_push_of_some _ e), turn_list a _, ⟨_, Heap.get?_push_size _ rfl, rfl, rfl⟩, fp, q⟩
  · obtain ⟨its, rv, p, hz⟩ := I1.tuple hq
    refine wpAny_pyIter_tuple (show s1.heap.IsTuple a its.toArray from p) ⟨_, [s1.heap.objs.size], _, _, H1, rfl, I1.kept (t' := s1.toks) (fun b o e => Heap.get?_push_of_some _ e), turn_tuple a _, ⟨_, Heap.get?_push_size _ rfl, rfl, rfl⟩, fp, q⟩
theorem itl_ok {K : PySem.W.Frag} {Fs G : Hp} {a : Addr} {xs : List V} {ds : List PyData} (h : G a = some (.lst xs)) (r : RpA Fs xs ds) : ItOk (Itl K a) Fs ds G := by
  intro Hc s i
  have hq : SqL K Hc a xs := SqL.of (s _ _ h)
  refine ⟨fun d e => ?_, fun hi => ⟨xs, hq, by rw [r.len]; exact hi⟩⟩
  obtain ⟨x, h1, h2⟩ := r.get e
  refine ⟨⟨xs, x, hq, h1⟩, ?_⟩
  rintro y H' ⟨rfl, hy⟩
  have := hy xs hq
  rw [h1] at this
  cases this
  exact .inl ⟨rfl, h2⟩
theorem itt_ok {K : PySem.W.Frag} {Fs G : Hp} {a : Addr} {xs : List V} {ds : List PyData} (h : G a = some (.tup xs)) (r : RpA Fs xs ds) : ItOk (Itt K a) Fs ds G := by
  intro Hc s i
  have hq : SqT K Hc a xs := SqT.of (s _ _ h)
  refine ⟨fun d e => ?_, fun hi => ⟨xs, hq, by rw [r.len]; exact hi⟩⟩
  obtain ⟨x, h1, h2⟩ := r.get e
  refine ⟨⟨xs, x, hq, h1⟩, ?_⟩
  rintro y H' ⟨rfl, hy⟩
  have := hy xs hq
  rw [h1] at this
  cases this
  exact .inl ⟨rfl, h2⟩
section
variable {X : Cx} {tg e : Expr} {f : SE}
theorem dItF (he : PE X e (tE f)) : PI X tg e (tIf (itF f)) := by
  refine PI.imp (pi_seq he) ?_
  rintro σ H R ⟨B, F, ρ, S, ds, ρ', S', E, e, k⟩
  obtain ⟨⟨r, ρ1, S1⟩, e1, e⟩ := bind_some e
  obtain ⟨⟨s, ρ2⟩, e2, e⟩ := bind_some e
  refine ⟨B, F, ρ, S, r, ρ1, S1, E, e1, fun v H1 F1 E1 x1 o1 ok1 fr1 => ?_⟩
  obtain ⟨F2, a2, E2, x2, o2⟩ := fz_ok E1 ok1 e2
  cases s with
  | im d =>
    obtain ⟨es, e3, e⟩ := bind_some e
    cases e
    have x3 : Ext (DOwn B σ ρ) F H F2 H1 := x1.trans x2 fun b z => by
      rcases z with ⟨d, h1, h2⟩ | z
      · exact .inr (fr1 d b h1 h2)
      · exact .inl (o1 b z)
    have a2 : Rp F2 v d := a2
    cases a2 with
    | lst h1 z ra => cases e3; exact ⟨_, rfl, .inl ⟨⟨_, SqL.of (E2.sub _ _ h1)⟩, k _ H1 F2 E2 x3 (fun b z => o1 b (o2 b z)) (itl_ok h1 ra)⟩⟩
    | tup h1 z ra => cases e3; exact ⟨_, rfl, .inr ⟨⟨_, SqT.of (E2.sub _ _ h1)⟩, k _ H1 F2 E2 x3 (fun b z => o1 b (o2 b z)) (itt_ok h1 ra)⟩⟩
    | _ => cases e3
  | _ => cases e
theorem dItC (he : PE X e (tE f)) : PI X tg e (tIc (itE f)) := by
  refine PI.imp (pi_seq he) ?_
  rintro σ H R ⟨B, F, ρ, S, ds, ρ', S', E, e, k⟩
  obtain ⟨⟨r, ρ1, S1⟩, e1, e⟩ := bind_some e
  obtain ⟨d, e2, e⟩ := bind_some e
  obtain ⟨es, e3, e⟩ := bind_some e
  cases e
  refine ⟨B, F, ρ, S, r, _, _, E, e1, fun v H1 F1 E1 x1 o1 ok1 fr1 => ?_⟩
  have rd := ok1.rd E1 e2
  -- its object is not the source's
  have nos : ∀ a, v = .ref a → (∀ o, H1 a = some o → (∃ xs, o = .lst xs) ∨ ∃ xs, o = .tup xs) → noSrc B H1 a = H1 a := by
    intro a ea ho
    unfold noSrc
    by_cases hc : a = B.a0 ∨ a = B.c0
    · exfalso
      rcases hc with rfl | hc
      · rcases ho _ E1.src.1 with ⟨xs, z⟩ | ⟨xs, z⟩ <;> cases z
      · subst ea
        cases r with
        | im d' =>
          cases e2
          cases (show Rp F1 (.ref a) d from ok1) with
          | lst h1 _ _ => rw [hc, E1.fc] at h1; cases h1
          | tup h1 _ _ => rw [hc, E1.fc] at h1; cases h1
          | dk _ _ => cases e3
          | dt _ _ _ => cases e3
        | ow d' =>
          obtain ⟨a', h1, _, _, _, h5⟩ := ok1
          cases h1
          exact h5 (.inr (.inl hc))
        | bo i =>
          have ok1 : σ[i]? = some (some (.ref a)) := ok1
          cases q : ρ'[i]? with
          | none => simp only [datOf, q] at e2; cases e2
          | some t =>
            have w := E1.sl i t q
            rw [ok1] at w
            simp only [datOf, q] at e2
            cases t with
            | im d' =>
              cases e2
              obtain ⟨u, h1, h2⟩ := w
              cases h1
              cases h2 with
              | lst h1 _ _ => rw [hc, E1.fc] at h1; cases h1
              | tup h1 _ _ => rw [hc, E1.fc] at h1; cases h1
              | dk _ _ => cases e3
              | dt _ _ _ => cases e3
            | ow d' => obtain ⟨u, h1, _, _, _, _, h6⟩ := w; cases h1; exact h6 hc
            | ro d' => obtain ⟨u, h1, _, _, h6⟩ := w; cases h1; exact h6 hc
            | un => cases e2
            | so => cases e2
        | so => cases e2
    · rw [if_neg hc]
  cases d with
  | list es =>
    cases e3
    obtain ⟨a, xs, rfl, h1, z, ra⟩ := rd.lst E1.sub
    exact ⟨a, rfl, .inl ⟨⟨xs, SqL.of h1⟩, k _ H1 F1 E1 x1 o1 (itl_ok ((nos a rfl fun o h => by rw [h1] at h; cases h; exact .inl ⟨_, rfl⟩).trans h1) ra)⟩⟩
  | tuple es =>
    cases e3
    obtain ⟨a, xs, rfl, h1, z, ra⟩ := rd.tup E1.sub
    exact ⟨a, rfl, .inr ⟨⟨xs, SqT.of h1⟩, k _ H1 F1 E1 x1 o1 (itt_ok ((nos a rfl fun o h => by rw [h1] at h; cases h; exact .inr ⟨_, rfl⟩).trans h1) ra)⟩⟩
  | _ => cases e3
end

/-! ### ranges -/
/-- lo, lo + 1, .. below hi -/
def rgD (lo hi : Int) : List PyData := (List.range (hi - lo).toNat).map fun i => .int (lo + (i : Nat))
def smallI (i : Int) : Bool := decide (-16777216 ≤ i) && decide (i ≤ 16777216)
def rgOf : List PyData → Option (List PyData)
  | [.int n] => if smallI n = true then some (rgD 0 n) else none
  | [.int a, .int b] => if smallI a = true ∧ smallI b = true then some (rgD a b) else none
  | _ => none
theorem rgOf_some {es ds : List PyData} (h : rgOf es = some ds) : (∃ n, es = [.int n] ∧ smallI n = true ∧ ds = rgD 0 n) ∨ ∃ a b, es = [.int a, .int b] ∧ smallI a = true ∧ smallI b = true ∧ ds = rgD a b := by
  unfold rgOf at h
  split at h
  · rename_i n
    split at h
    · rename_i c
      exact .inl ⟨n, rfl, c, (Option.some.inj h).symm⟩
    · cases h
  · rename_i a b
    split at h
    · rename_i c
      exact .inr ⟨a, b, rfl, c.1, c.2, (Option.some.inj h).symm⟩
    · cases h
  · cases h
def itR (g : SA) : SIt := fun ρ S => do
  let (rs, ρ1, S1) ← g ρ S
  let es ← datsOf ρ1 rs
  let ds ← rgOf es
  some (ds, ρ1, S1)
theorem smallI_b {i : Int} (h : smallI i = true) : -16777216 ≤ i ∧ i ≤ 16777216 := by
  unfold smallI at h
  rw [Bool.and_eq_true] at h
  exact ⟨of_decide_eq_true h.1, of_decide_eq_true h.2⟩
theorem itr_ok {Fs G : Hp} {lo hi : Int} : ItOk (Itr lo (hi - lo).toNat) Fs (rgD lo hi) G := by
  intro Hc s i
  refine ⟨fun d e => ?_, fun h => ?_⟩
  · unfold rgD at e
    rw [List.getElem?_map] at e
    by_cases hi' : i < (hi - lo).toNat
    · rw [List.getElem?_range hi'] at e
      cases e
      refine ⟨hi', ?_⟩
      rintro x H' ⟨rfl, rfl⟩
      exact .inl ⟨rfl, .int _⟩
    · rw [List.getElem?_eq_none (by rw [List.length_range]; omega)] at e; cases e
  · show (hi - lo).toNat ≤ i
    unfold rgD at h
    rw [List.length_map, List.length_range] at h
    exact h
section
variable {X : Cx} {tg a b : Expr} {g : SA} {p pos : Pos}
theorem rd1 {H F : Hp} {vs : List V} {d : PyData} (h : RdA H F vs [d]) : ∃ v, vs = [v] ∧ Rd1 H F v d := by
  cases h with
  | cons h r => cases r; exact ⟨_, rfl, h⟩
theorem rd2 {H F : Hp} {vs : List V} {d e : PyData} (h : RdA H F vs [d, e]) : ∃ v w, vs = [v, w] ∧ Rd1 H F v d ∧ Rd1 H F w e := by
  cases h with
  | cons h r => obtain ⟨w, rfl, h2⟩ := rd1 r; exact ⟨_, _, rfl, h, h2⟩
theorem itR_some {ρ : Rho} {S : Src} {z : List PyData × Rho × Src} (h : itR g ρ S = some z) : ∃ rs es, g ρ S = some (rs, z.2.1, z.2.2) ∧ datsOf z.2.1 rs = some es ∧
    ((∃ n, es = [.int n] ∧ smallI n = true ∧ z.1 = rgD 0 n) ∨ ∃ a b, es = [.int a, .int b] ∧ smallI a = true ∧ smallI b = true ∧ z.1 = rgD a b) := by
  obtain ⟨⟨rs, ρ1, S1⟩, e1, e⟩ := bind_some h
  obtain ⟨es, e2, e⟩ := bind_some e
  obtain ⟨ds, e3, e⟩ := bind_some e
  cases e
  exact ⟨rs, es, e1, e2, rgOf_some e3⟩
theorem datsOf_len : ∀ {rs : List Vl} {ρ : Rho} {ds : List PyData}, datsOf ρ rs = some ds → rs.length = ds.length
  | [], _, _, h => by cases h; rfl
  | r :: rs, ρ, ds, h => by
    obtain ⟨d, _, h⟩ := bind_some h
    obtain ⟨dt, h2, h⟩ := bind_some h
    cases h
    rw [List.length_cons, List.length_cons, datsOf_len h2]
theorem dItR1 {g : SE} (hg : Gl X "range") (hm : X.mg "range" = none) (ha : PE X a (tE g)) (hs : starEach [a] X.env = [(false, eval a X.env)] := by rfl) (hs1 : starEach [a] X.env = (false, eval a X.env) :: starEach [] X.env := by rfl) : PI X tg (.Call (.Name "range" p) [a] [] pos) (tIa (itR (aCons g aNil))) := by
  refine PI.imp (pi_range1 hg hm (dA ha dA0 hs1) hs) ?_
  rintro σ H R ⟨B, F, ρ, S, ds, ρ', S', E, e, k⟩
  obtain ⟨rs, es, e1, e2, e3⟩ := itR_some e
  refine ⟨B, F, ρ, S, rs, _, _, E, e1, fun vs H1 F1 E1 x1 o1 ok1 fr1 => ?_⟩
  have rd := ok1.rd E1 e2
  rcases e3 with ⟨n, rfl, c, e3⟩ | ⟨i, j, rfl, c1, c2, e3⟩
  · obtain ⟨v, rfl, h⟩ := rd1 rd
    obtain ⟨b1, b2⟩ := smallI_b c
    refine ⟨n, by rw [h.int], by omega, by omega, k _ H1 F1 E1 x1 o1 fun G => ?_⟩
    rw [show ds = rgD 0 n from e3]
    have z := itr_ok (Fs := F1) (G := G) (lo := 0) (hi := n)
    rw [Int.sub_zero] at z
    exact z
  · exfalso
    obtain ⟨⟨r0, ρ0, S0⟩, q1, q⟩ := bind_some e1
    obtain ⟨⟨r1, ρ1, S1⟩, q2, q⟩ := bind_some q
    cases q2
    cases q
    have := datsOf_len e2
    simp at this
theorem dItR2 {f g : SE} (hg : Gl X "range") (hm : X.mg "range" = none) (ha : PE X a (tE f)) (hb : PE X b (tE g)) (hs : starEach [a, b] X.env = [(false, eval a X.env), (false, eval b X.env)] := by rfl) (hs2 : starEach [b] X.env = [(false, eval b X.env)] := by rfl)
    (hs3 : starEach [a, b] X.env = (false, eval a X.env) :: starEach [b] X.env := by rfl) (hs4 : starEach [b] X.env = (false, eval b X.env) :: starEach [] X.env := by rfl) : PI X tg (.Call (.Name "range" p) [a, b] [] pos) (tIa (itR (aCons f (aCons g aNil)))) := by
  refine PI.imp (pi_range2 hg hm (dA ha (dA hb dA0 hs4) hs3) hs hs2) ?_
  rintro σ H R ⟨B, F, ρ, S, ds, ρ', S', E, e, k⟩
  obtain ⟨rs, es, e1, e2, e3⟩ := itR_some e
  refine ⟨B, F, ρ, S, rs, _, _, E, e1, fun vs H1 F1 E1 x1 o1 ok1 fr1 => ?_⟩
  have rd := ok1.rd E1 e2
  rcases e3 with ⟨n, rfl, c, e3⟩ | ⟨i, j, rfl, c1, c2, e3⟩
  · exfalso
    obtain ⟨⟨r0, ρ0, S0⟩, q1, q⟩ := bind_some e1
    obtain ⟨⟨r1, ρ1, S1⟩, q2, q⟩ := bind_some q
    obtain ⟨⟨r2, ρ2, S2⟩, q3, q2⟩ := bind_some q2
    obtain ⟨⟨r4, ρ4, S4⟩, q4, q2⟩ := bind_some q2
    cases q4
    cases q2
    cases q
    have := datsOf_len e2
    simp at this
  · obtain ⟨v, w, rfl, h, h'⟩ := rd2 rd
    obtain ⟨b1, b2⟩ := smallI_b c1
    obtain ⟨b3, b4⟩ := smallI_b c2
    refine ⟨i, j, by rw [h.int, h'.int], ⟨by omega, by omega, by omega, by omega⟩, k _ H1 F1 E1 x1 o1 fun G => ?_⟩
    rw [show ds = rgD i j from e3]
    exact itr_ok
end

/-! ### list(range(..)), tuple(range(..)) -/
def eRgL (g : SA) : SE := fun ρ S => do
  let (ds, ρ1, S1) ← itR g ρ S
  some (.ow (.list ds), ρ1, S1)
def eRgT (g : SA) : SE := fun ρ S => do
  let (ds, ρ1, S1) ← itR g ρ S
  some (.im (.tuple ds), ρ1, S1)
theorem rg_rp {F : Hp} (lo hi : Int) : RpA F (rgV lo hi) (rgD lo hi) := by
  unfold rgV rgD
  generalize List.range (hi - lo).toNat = l
  induction l with
  | nil => exact .nil
  | cons i l ih => exact .cons (.int _) ih
section
variable {X : Cx} {a b : Expr} {f g : SE} {p pos p' pos' : Pos}
theorem rg_fin {lo hi : Int} (h1 : smallI lo = true) (h2 : smallI hi = true) (h3 : (hi - lo).toNat ≤ sizeLine) : RgOk lo hi := by
  obtain ⟨b1, b2⟩ := smallI_b h1
  obtain ⟨b3, b4⟩ := smallI_b h2
  rw [sizeLine_eq] at h3
  exact ⟨by omega, by omega, by omega, by omega, h3⟩
theorem dRgL1 (hc : X.calm = true) (hg : Gl X "list") (hm : X.mg "list" = none) (hg2 : Gl X "range") (hm2 : X.mg "range" = none) (ha : PE X a (tE f)) (na : starEach [a] X.env = (false, eval a X.env) :: starEach [] X.env := by rfl)
    (na2 : starEach [.Call (.Name "range" p') [a] [] pos'] X.env = (false, eval (.Call (.Name "range" p') [a] [] pos') X.env) :: starEach [] X.env := by rfl) : PE X (.Call (.Name "list" p) [.Call (.Name "range" p') [a] [] pos'] [] pos) (tE (eRgL (aCons f aNil))) := by
  refine PE.imp (pe_listRg hc hg hm (prg_1 hg2 hm2 ha na) na2) ?_
  rintro σ H Q ⟨B, F, ρ, S, r, ρ', S', E, e, k⟩
  obtain ⟨⟨ds, ρ1, S1⟩, e1, e⟩ := bind_some e
  cases e
  obtain ⟨rs, es, e1, e2, e3⟩ := itR_some e1
  obtain ⟨⟨r0, ρ0, S0⟩, q1, q⟩ := bind_some e1
  obtain ⟨⟨r1, ρ1, S1⟩, q2, q⟩ := bind_some q
  cases q2
  cases q
  refine ⟨B, F, ρ, S, r0, _, _, E, q1, fun v H1 F1 E1 x1 o1 ok1 fr1 => ?_⟩
  rcases e3 with ⟨n, rfl, c, e3⟩ | ⟨i, j, rfl, c1, c2, e3⟩
  · obtain ⟨d, q4, q5⟩ := bind_some e2
    obtain ⟨dt, q6, q5⟩ := bind_some q5
    cases q6
    cases q5
    have hv := (ok1.rd E1 q4).int
    refine ⟨n, hv, rg_fin (by decide) c ?_, ?_⟩
    · obtain ⟨b1, b2⟩ := smallI_b c
      rw [sizeLine_eq]; omega
    · obtain ⟨b1, b2⟩ := smallI_b c
      replace e3 : ds = rgD 0 n := e3
      subst e3
      exact KE.lst E1 (KE.after x1 o1 k) (rg_rp 0 n) (by rw [rgV_length, sizeLine_eq]; omega)
  · have := datsOf_len e2
    simp at this
theorem dRgT1 (hc : X.calm = true) (hg : Gl X "tuple") (hm : X.mg "tuple" = none) (hg2 : Gl X "range") (hm2 : X.mg "range" = none) (ha : PE X a (tE f)) (na : starEach [a] X.env = (false, eval a X.env) :: starEach [] X.env := by rfl)
    (na2 : starEach [.Call (.Name "range" p') [a] [] pos'] X.env = (false, eval (.Call (.Name "range" p') [a] [] pos') X.env) :: starEach [] X.env := by rfl) : PE X (.Call (.Name "tuple" p) [.Call (.Name "range" p') [a] [] pos'] [] pos) (tE (eRgT (aCons f aNil))) := by
  refine PE.imp (pe_tupRg hc hg hm (prg_1 hg2 hm2 ha na) na2) ?_
  rintro σ H Q ⟨B, F, ρ, S, r, ρ', S', E, e, k⟩
  obtain ⟨⟨ds, ρ1, S1⟩, e1, e⟩ := bind_some e
  cases e
  obtain ⟨rs, es, e1, e2, e3⟩ := itR_some e1
  obtain ⟨⟨r0, ρ0, S0⟩, q1, q⟩ := bind_some e1
  obtain ⟨⟨r1, ρ1, S1⟩, q2, q⟩ := bind_some q
  cases q2
  cases q
  refine ⟨B, F, ρ, S, r0, _, _, E, q1, fun v H1 F1 E1 x1 o1 ok1 fr1 => ?_⟩
  rcases e3 with ⟨n, rfl, c, e3⟩ | ⟨i, j, rfl, c1, c2, e3⟩
  · obtain ⟨d, q4, q5⟩ := bind_some e2
    obtain ⟨dt, q6, q5⟩ := bind_some q5
    cases q6
    cases q5
    have hv := (ok1.rd E1 q4).int
    obtain ⟨b1, b2⟩ := smallI_b c
    refine ⟨n, hv, rg_fin (by decide) c (by rw [sizeLine_eq]; omega), ?_⟩
    replace e3 : ds = rgD 0 n := e3
    subst e3
    exact KE.tup E1 (KE.after x1 o1 k) (rg_rp 0 n) (by rw [rgV_length, sizeLine_eq]; omega)
  · have := datsOf_len e2
    simp at this
end

/-! ### for -/
def forGo (g : SG) (b : SS) : List PyData → SS
  | [], ρ, S => some (.nx, ρ, S)
  | d :: ds, ρ, S => do
    let ρ1 ← g d ρ
    let (fl, ρ2, S2) ← b ρ1 S
    match fl with
    | .nx => forGo g b ds ρ2 S2
    | .ct => forGo g b ds ρ2 S2
    | .bk => some (.nx, ρ2, S2)
    | .rt d => some (.rt d, ρ2, S2)
def sFor (it : SIt) (g : SG) (b : SS) : SS := fun ρ S => do
  let (ds, ρ1, S1) ← it ρ S
  forGo g b ds ρ1 S1
theorem yl_env {B : Bs} {σ : St} {Hc H' Fs F : Hp} {ρ : Rho} {S : Src} {x : V} {d : PyData} (E : DEnv B σ Hc F ρ S) (y : Yl Fs Hc x d H') (s : Sub Fs F) : ∃ F', DEnv B σ H' F' ρ S ∧ Rp F' x d ∧ Ext (fun _ => False) F Hc F' H' := by
  rcases y with ⟨rfl, r⟩ | ⟨T, xs, es, rfl, hT, rfl, rfl, r, z⟩
  · exact ⟨F, E, r.mono s, Ext.refl _ _ _⟩
  · have hF := E.noF hT
    have E1 : DEnv B σ (upd Hc T (.tup xs)) F ρ S := E.laid hT
    have nO : ¬ DOwn B σ ρ T := fun z => by obtain ⟨o, e⟩ := E.live z; rw [hT] at e; cases e
    have E2 := E1.froze (p := T) (o := .tup xs) upd_same hF (E.n0 hT) nO
    refine ⟨_, E2, .tup upd_same z (r.mono fun b o e => by rw [upd_ne (ne_of_none (s b o e) hF)]; exact s b o e), ?_⟩
    refine ⟨fun b o e _ => by rw [upd_ne (ne_of_none e hT)]; exact e, fun b o e => by rw [upd_ne (ne_of_none e hF)]; exact e, fun b e => ?_, fun b e => ?_⟩
    · by_cases hb : b = T
      · subst hb; exact .inr (.inr hT)
      · rw [upd_ne hb] at e; exact .inl e
    · by_cases hb : b = T
      · subst hb; exact hT
      · rw [upd_ne hb] at e; exact e
theorem for_imp {it : SIt} {l : List Nat} {g : SG} {b : SS} {D : Ends} {σ : St} {H : Hp} (q : tS (sFor it g b) D σ H) : tFor (tIf it) (tG l g) (tS b) D σ H := by
  obtain ⟨B, F, ρ, S, fl, ρ', S', E, e, k⟩ := q
  obtain ⟨⟨ds, ρ1, S1⟩, e1, e⟩ := bind_some e
  refine ⟨B, F, ρ, S, ds, ρ1, S1, E, e1, fun J H1 F1 E1 x1 _ w => ?_⟩
  have sF : Sub F F1 := x1.mono
  refine ⟨fun i m σ H => ∃ F ρ S, m = ds.length - i ∧ i ≤ ds.length ∧ DEnv B σ H F ρ S ∧ Sub F1 F ∧ forGo g b (ds.drop i) ρ S = some (fl, ρ', S'), ⟨ds.length, F1, ρ1, S1, by simp, Nat.zero_le _, E1, Sub.refl _, e⟩, ?_⟩
  rintro i m σ2 H2 ⟨F2, ρ2, S2, rfl, hi, E2, s2, e2⟩
  obtain ⟨w1, w2⟩ := w H2 (s2.trans E2.sub) i
  by_cases hlt : i < ds.length
  · have hd : ds[i]? = some ds[i] := List.getElem?_eq_getElem hlt
    obtain ⟨go, yl⟩ := w1 _ hd
    rw [List.drop_eq_getElem_cons hlt] at e2
    obtain ⟨ρ3, e3, e2⟩ := bind_some e2
    obtain ⟨⟨f4, ρ4, S4⟩, e4, e2⟩ := bind_some e2
    refine .inr ⟨go, fun σ H => ∃ F ρ S, DEnv B σ H F ρ S ∧ Sub F1 F ∧ forGo g b (ds.drop (i + 1)) ρ S = some (fl, ρ', S'), fun σ' H' ⟨F', ρ'', S'', a1, a2, a3⟩ => ⟨ds.length - (i + 1), by omega, F', ρ'', S'', rfl, hlt, a1, a2, a3⟩, fun x H' y => ?_⟩
    obtain ⟨F3, E3, r3, x3⟩ := yl_env E2 (yl x H' y) s2
    refine ⟨B, F3, ρ2, S2, ds[i], ρ3, E3, r3, e3, fun σ' E' _ => ⟨B, F3, ρ3, S2, f4, ρ4, S4, E', e4, fun σ5 H5 F5 E5 s5 => ?_⟩⟩
    have s6 : Sub F1 F5 := s2.trans (x3.mono.trans s5)
    cases f4 with
    | nx => exact ⟨F5, ρ4, S4, E5, s6, e2⟩
    | ct => exact ⟨F5, ρ4, S4, E5, s6, e2⟩
    | bk => cases e2; exact k σ5 H5 F5 E5 (sF.trans s6)
    | rt d => cases e2; exact k σ5 H5 F5 E5 (sF.trans s6)
  · have e' : i = ds.length := by omega
    subst e'
    rw [List.drop_length] at e2
    cases e2
    exact .inl ⟨w2 (Nat.le_refl _), k σ2 H2 F2 E2 (sF.trans s2)⟩
theorem dFor {X : Cx} {tg e : Expr} {body : List Stmt} {it : SIt} {l : List Nat} {g : SG} {b : SS} {pos : Pos} (hp : PassesOwn (model X.prog X.w) X.A X.env X.xe) (hc : X.calm = true) (hi : PI X tg e (tIf it)) (hg : PG X tg (tG l g)) (hb : PSs X body (tS b)) (hs : ∀ x, foldedSetIterable e X.env x = pure x := by intro _; rfl) : PS X (.For tg e body [] pos) (tS (sFor it g b)) :=
  PS.imp (ps_for hp hc hi hg hb hs) fun _ _ _ q => for_imp q
end Dn

set_option Elab.async false
set_option linter.all false
set_option maxRecDepth 100000
set_option maxHeartbeats 4000000
/-! Dn10: list comprehensions. -/
namespace Dn
open PySem PySem.Spec PyProof.Rows L2

def roSl : Sl → Sl
  | .ow d => .ro d
  | s => s
/-- the slots inside a comprehension -/
def inn (ρ : Rho) : List Nat → Rho
  | [] => ρ.map roSl
  | v :: vs => (inn ρ vs).set v .un
theorem inn_len (ρ : Rho) : ∀ vs, (inn ρ vs).length = ρ.length
  | [] => by unfold inn; rw [List.length_map]
  | v :: vs => by unfold inn; rw [List.length_set, inn_len ρ vs]
theorem inn_at {ρ : Rho} {i : Nat} {s : Sl} : ∀ {vs : List Nat}, (inn ρ vs)[i]? = some s → s = .un ∨ (i ∉ vs ∧ ∃ t, ρ[i]? = some t ∧ s = roSl t)
  | [], h => by
    unfold inn at h
    rw [List.getElem?_map] at h
    cases q : ρ[i]? with
    | none => rw [q] at h; cases h
    | some t => rw [q] at h; cases h; exact .inr ⟨by simp, t, rfl, rfl⟩
  | v :: vs, h => by
    unfold inn at h
    rcases set_get h with ⟨_, q, _⟩ | ⟨hv, h⟩
    · exact .inl q
    · rcases inn_at h with z | ⟨z, w⟩
      · exact .inl z
      · exact .inr ⟨by simp only [List.mem_cons, not_or]; exact ⟨fun e => hv e.symm, z⟩, w⟩
theorem wipe_ne {σ : St} {i : Nat} : ∀ {vs : List Nat}, i ∉ vs → (wipe σ vs)[i]? = σ[i]?
  | [], _ => rfl
  | v :: vs, h => by
    unfold wipe
    simp only [List.mem_cons, not_or] at h
    rw [List.getElem?_set_ne (fun e => h.1 e.symm), wipe_ne h.2]
theorem wipe_in {σ : St} {i : Nat} : ∀ {vs : List Nat}, i ∈ vs → (wipe σ vs)[i]? = if i < σ.length then some none else none
  | v :: vs, h => by
    unfold wipe
    by_cases hv : v = i
    · subst hv
      by_cases hl : v < σ.length
      · rw [List.getElem?_set_self (by rw [wipe_length]; exact hl), if_pos hl]
      · rw [List.getElem?_eq_none (by rw [List.length_set, wipe_length]; omega), if_neg hl]
    · rw [List.getElem?_set_ne hv]
      rcases List.mem_cons.mp h with e | e
      · exact absurd e.symm hv
      · exact wipe_in e
theorem agr_wipe {l vs : List Nat} {σ σ2 : St} (a : Agr l (wipe σ vs) σ2) (h : ∀ i ∈ l, i ∈ vs) : wipe σ2 vs = wipe σ vs := by
  have hl : σ2.length = σ.length := a.1.trans (wipe_length σ vs)
  apply List.ext_getElem?
  intro j
  by_cases hj : j ∈ vs
  · rw [wipe_in hj, wipe_in hj, hl]
  · rw [wipe_ne hj, a.2 j fun z => hj (h j z)]
section
variable {B : Bs} {σ : St} {H F : Hp} {ρ : Rho} {S : Src}
theorem DEnv.inn (E : DEnv B σ H F ρ S) (vs : List Nat) : DEnv B (wipe σ vs) H F (inn ρ vs) S := by
  refine ⟨E.sub, E.src, E.fa, E.fc, E.keep, E.mono, E.new, by rw [wipe_length, inn_len]; exact E.len, fun i s e => ?_, fun i j d s a _ h => ?_⟩
  · rcases inn_at e with rfl | ⟨hi, t, ht, rfl⟩
    · trivial
    · rw [wipe_ne hi]
      have z := E.sl i t ht
      cases t with
      | ow d => obtain ⟨a, h1, h2, h3, h4, h5, h6⟩ := z; exact ⟨a, h1, h2, h5, h6⟩
      | _ => exact z
  · rcases inn_at h with z | ⟨_, t, _, z⟩
    · cases z
    · cases t <;> cases z
/-- no slot is owned -/
def NoOw (ρ : Rho) : Prop := ∀ (i : Nat) (d : PyData), ρ[i]? ≠ some (.ow d)
theorem inn_noOw (ρ : Rho) (vs : List Nat) : NoOw (Dn.inn ρ vs) := fun i d h => by
  rcases inn_at h with z | ⟨_, t, _, z⟩
  · cases z
  · cases t <;> cases z
theorem NoOw.own (h : NoOw ρ) {b : Addr} (z : DOwn B σ ρ b) : b = B.a0 ∨ b = B.c0 := by
  rcases z with z | z | ⟨i, d, z, _⟩
  · exact .inl z
  · exact .inr z
  · exact absurd z (h i d)
/-- out again -/
theorem DEnv.back {σi : St} {ρi : Rho} {H' F' : Hp} {S' : Src} (E : DEnv B σ H F ρ S) (I : DEnv B σi H' F' ρi S') (x : Ext (fun b => b = B.a0 ∨ b = B.c0) F H F' H') : DEnv B σ H' F' ρ S' := by
  refine ⟨I.sub, I.src, I.fa, I.fc, I.keep, I.mono, I.new, E.len, fun i s e => ?_, E.uni⟩
  have z := E.sl i s e
  have st : ∀ {a : Addr} {d : PyData}, a ≠ B.a0 → a ≠ B.c0 → Ob H F a d → Ob H' F' a d := fun h1 h2 ob => ob.mono (fun o e => x.keep _ o e fun z => by rcases z with z | z; exact h1 z; exact h2 z) x.mono
  cases s with
  | un => trivial
  | im d => obtain ⟨v, h1, h2⟩ := z; exact ⟨v, h1, h2.mono x.mono⟩
  | ow d =>
    obtain ⟨a, h1, h2, h3, h4, h5, h6⟩ := z
    refine ⟨a, h1, st h5 h6 h2, ?_, h4, h5, h6⟩
    cases q : F' a with
    | none => rfl
    | some o =>
      rcases x.new a (by rw [q]; simp) with w | (w | w) | w
      · exact absurd h3 w
      · exact absurd w h5
      · exact absurd w h6
      · obtain ⟨o', e⟩ := h2.there; rw [e] at w; cases w
  | ro d => obtain ⟨a, h1, h2, h5, h6⟩ := z; exact ⟨a, h1, st h5 h6 h2, h5, h6⟩
  | so => exact z
end

/-! ### the meaning -/
def lcGo (g : SG) (t : STt) (f : SE) (ρi : Rho) : List PyData → Src → Option (List PyData × Src)
  | [], S => some ([], S)
  | d :: ds, S => do
    let ρ1 ← g d ρi
    let (b, ρ2, S2) ← t ρ1 S
    if b then do
      let (r, ρ3, S3) ← f ρ2 S2
      let (s, _) ← fz ρ3 r
      match s with
      | .im e => do
        let (es, S4) ← lcGo g t f ρi ds S3
        some (e :: es, S4)
      | _ => none
    else lcGo g t f ρi ds S2
def eLc (it : SIt) (vs : List Nat) (g : SG) (t : STt) (f : SE) : SE := fun ρ S => do
  let (ds, ρ1, S1) ← it ρ S
  if ds.length ≤ sizeLine then do
    let (es, S2) ← lcGo g t f (inn ρ1 vs) ds S1
    some (.ow (.list es), ρ1, S2)
  else none
/-- a target never owns -/
def GOw (g : SG) : Prop := ∀ d ρ ρ', g d ρ = some ρ' → NoOw ρ → NoOw ρ'
def GOws (g : SGs) : Prop := ∀ d ρ ρ', g d ρ = some ρ' → NoOw ρ → NoOw ρ'
theorem gow_nm {i : Nat} : GOw (gNm i) := fun d ρ ρ' e h j d' q => by
  cases e
  rcases set_get q with ⟨_, z, _⟩ | ⟨_, z⟩
  · cases z
  · exact h j d' z
theorem gow_0 : GOws gsNil := fun d ρ ρ' e h => by
  cases d with
  | nil => cases e; exact h
  | cons _ _ => cases e
theorem gow_1 {g : SG} {gs : SGs} (h1 : GOw g) (h2 : GOws gs) : GOws (gsCons g gs) := fun d ρ ρ' e h => by
  cases d with
  | nil => cases e
  | cons d ds =>
    obtain ⟨ρ1, e1, e⟩ := bind_some e
    exact h2 _ _ _ e (h1 _ _ _ e1 h)
theorem gow_t {gs : SGs} (h : GOws gs) : GOw (gTp gs) := fun d ρ ρ' e w => by
  obtain ⟨ds, e1, e⟩ := bind_some e
  exact h _ _ _ e w
def tYesS : STt := fun ρ S => some (true, ρ, S)
theorem yes_imp : ∀ σ H Q, tT tYesS σ H Q → tYes σ H Q := by
  rintro σ H Q ⟨B, F, ρ, S, b, ρ', S', E, e, q⟩
  cases e
  exact q H F E (Ext.refl _ _ _) fun _ z => z
theorem PTs.imp {X : Cx} {e : List Expr} {t t' : TT} (h : PTs X e t) (k : ∀ σ H Q, t' σ H Q → t σ H Q) : PTs X e t' := ⟨fun pins s σ H Q I q => h.run pins s σ H Q I (k σ H Q q)⟩
theorem dTs0 {X : Cx} : PTs X [] (tT tYesS) := PTs.imp pts_nil yes_imp
theorem dTs1 {X : Cx} {c : Expr} {t : STt} (h : PT X c (tT t)) : PTs X [c] (tT t) := pts_one h
theorem ext_two {B : Bs} {σ : St} {ρ : Rho} {F H F' H' : Hp} (h : NoOw ρ) (x : Ext (DOwn B σ ρ) F H F' H') : Ext (fun b => b = B.a0 ∨ b = B.c0) F H F' H' := x.weak fun b z => h.own z
theorem ext_run {B : Bs} {F H F1 H1 F2 H2 : Hp} (x : Ext (fun b => b = B.a0 ∨ b = B.c0) F H F1 H1) (y : Ext (fun b => b = B.a0 ∨ b = B.c0) F1 H1 F2 H2) : Ext (fun b => b = B.a0 ∨ b = B.c0) F H F2 H2 := x.trans y fun _ z => .inl z
theorem lc_imp {it : SIt} {l vs : List Nat} {g : SG} {t : STt} {f : SE} (hl : ∀ i ∈ l, i ∈ vs) (hg : GOw g) {σ : St} {H : Hp} {Q : VK} (q : tE (eLc it vs g t f) σ H Q) : tLc (tIc it) (tG l g) (tT t) (tE f) vs σ H Q := by
  obtain ⟨B, F, ρ, S, r, ρ', S', E, e, k⟩ := q
  obtain ⟨⟨ds, ρ1, S1⟩, e1, e⟩ := bind_some e
  replace e : (if ds.length ≤ sizeLine then (do
    let (es, S2) ← lcGo g t f (inn ρ1 vs) ds S1
    some (Vl.ow (.list es), ρ1, S2)) else none) = some (r, ρ', S') := e
  by_cases hz : ds.length ≤ sizeLine
  case neg => rw [if_neg hz] at e; cases e
  rw [if_pos hz] at e
  obtain ⟨⟨es, S2⟩, e2, e⟩ := bind_some e
  cases e
  refine ⟨B, F, ρ, S, ds, _, S1, E, e1, fun J H1 F1 E1 x1 o1 w D hD => ?_⟩
  -- what stays true turn by turn
  refine ⟨fun i m Hc => ∃ Fc Sc acc as rest, m = ds.length - i ∧ i ≤ ds.length ∧ DEnv B σ Hc Fc _ Sc ∧ Ext (fun b => b = B.a0 ∨ b = B.c0) F1 H1 Fc Hc ∧ Fc D = none ∧ Hc D = some (.lst acc) ∧ RpA Fc acc as ∧ acc.length ≤ i ∧ lcGo g t f (inn _ vs) (ds.drop i) Sc = some (rest, S') ∧ es = as ++ rest,
    ⟨ds.length, F1, S1, [], [], es, by simp, Nat.zero_le _, E1.laid hD, ext_laid hD, E1.noF hD, upd_same, .nil, Nat.le_refl _, e2, by simp⟩, ?_⟩
  rintro i m Hc ⟨Fc, Sc, acc, as, rest, rfl, hi, Ec, xc, nD, aD, rD, zD, ec, hes⟩
  have dA : D ≠ B.a0 := fun z => by rw [z, E1.src.1] at hD; cases hD
  have dC : D ≠ B.c0 := fun z => by rw [z, E1.src.2.1] at hD; cases hD
  have sN : Sub (noSrc B H1) Hc := fun b o e => by
    unfold noSrc at e
    by_cases hb : b = B.a0 ∨ b = B.c0
    · rw [if_pos hb] at e; cases e
    · rw [if_neg hb] at e; exact xc.keep b o e hb
  obtain ⟨w1, w2⟩ := w Hc sN i
  by_cases hlt : i < ds.length
  case neg =>
    have e' : i = ds.length := by omega
    subst e'
    rw [List.drop_length] at ec
    cases ec
    rw [List.append_nil] at hes
    subst hes
    refine .inl ⟨w2 (Nat.le_refl _), ?_⟩
    refine k (.ref D) Hc Fc Ec (x1.trans xc fun b z => ?_) o1 ⟨D, rfl, ⟨acc, aD, by omega, rD⟩, nD, E1.n0 hD, fun z => ?_⟩ fun d a _ h => by cases h; exact x1.live D hD
    · rcases z with z | z
      · exact .inl (.inl z)
      · exact .inl (.inr (.inl z))
    · obtain ⟨o, q⟩ := E1.live z; rw [hD] at q; cases q
  have hd : ds[i]? = some ds[i] := List.getElem?_eq_getElem hlt
  obtain ⟨go, yl⟩ := w1 _ hd
  rw [List.drop_eq_getElem_cons hlt] at ec
  obtain ⟨ρ3, e3, ec⟩ := bind_some ec
  obtain ⟨⟨b, ρ4, S4⟩, e4, ec⟩ := bind_some ec
  refine .inr ⟨go, fun Hc => ∃ Fc Sc acc as rest, i + 1 ≤ ds.length ∧ DEnv B σ Hc Fc _ Sc ∧ Ext (fun b => b = B.a0 ∨ b = B.c0) F1 H1 Fc Hc ∧ Fc D = none ∧ Hc D = some (.lst acc) ∧ RpA Fc acc as ∧ acc.length ≤ i + 1 ∧ lcGo g t f (inn _ vs) (ds.drop (i + 1)) Sc = some (rest, S') ∧ es = as ++ rest,
    fun H' ⟨F', S', acc', as', rest', q⟩ => ⟨ds.length - (i + 1), by omega, F', S', acc', as', rest', rfl, q⟩, fun x Hx yx => ?_⟩
  obtain ⟨F2, E2, r2, x2⟩ := yl_env Ec (yl x Hx yx) xc.mono
  have x2' : Ext (fun b => b = B.a0 ∨ b = B.c0) Fc Hc F2 Hx := x2.weak fun _ z => z.elim
  refine ⟨B, F2, _, Sc, ds[i], ρ3, E2.inn vs, r2, e3, fun σ2 E3 ag => ⟨agr_wipe ag hl, ?_⟩⟩
  have n3 : NoOw ρ3 := hg _ _ _ e3 (inn_noOw _ _)
  refine ⟨B, F2, ρ3, Sc, b, ρ4, S4, E3, e4, fun H4 F4 E4 x4 o4 => ?_⟩
  have x4' := ext_two n3 x4
  -- D stays
  have hold : ∀ {F' H' : Hp}, Ext (fun b => b = B.a0 ∨ b = B.c0) Fc Hc F' H' → H' D = some (.lst acc) ∧ F' D = none := fun {F' H'} x => by
    refine ⟨x.keep D _ aD fun z => by rcases z with z | z; exact dA z; exact dC z, ?_⟩
    cases q : F' D with
    | none => rfl
    | some o =>
      rcases x.new D (by rw [q]; simp) with z | (z | z) | z
      · exact absurd nD z
      · exact absurd z dA
      · exact absurd z dC
      · rw [aD] at z; cases z
  have x24 := ext_run x2' x4'
  cases b with
  | false =>
    refine iteF ?_
    replace ec : lcGo g t f (inn _ vs) (ds.drop (i + 1)) S4 = some (rest, S') := ec
    obtain ⟨h1, h2⟩ := hold x24
    exact ⟨F4, S4, acc, as, rest, hlt, Ec.back E4 x24, ext_run xc x24, h2, h1, rD.mono x24.mono, by omega, ec, hes⟩
  | true =>
    refine iteT ?_
    obtain ⟨⟨r, ρ5, S5⟩, e5, ec⟩ := bind_some (show (f ρ4 S4 >>= fun _ => _) = some (rest, S') from ec)
    obtain ⟨⟨s, ρ6⟩, e6, ec⟩ := bind_some ec
    have n4 : ∀ b, DOwn B σ2 ρ4 b → b = B.a0 ∨ b = B.c0 := fun b z => n3.own (o4 b z)
    refine ⟨B, F4, ρ4, S4, r, ρ5, S5, E4, e5, fun y H5 F5 E5 x5 o5 ok5 fr5 => ?_⟩
    have x5' : Ext (fun b => b = B.a0 ∨ b = B.c0) F4 H4 F5 H5 := x5.weak n4
    have x25 := ext_run x24 x5'
    obtain ⟨F6, a6, E6, x6, o6⟩ := fz_ok E5 ok5 e6
    have x26 : Ext (fun b => b = B.a0 ∨ b = B.c0) Fc Hc F6 H5 := x25.trans x6 fun b z => by
      rcases z with ⟨d, h1, h2⟩ | z
      · exact .inr (x24.live b (fr5 d b h1 h2))
      · exact .inl (n4 b (o5 b z))
    obtain ⟨h1, h2⟩ := hold x26
    cases s with
    | im e =>
      obtain ⟨⟨es', S7⟩, e7, ec⟩ := bind_some ec
      cases ec
      refine ⟨acc, h1, by omega, ?_⟩
      have Eo := Ec.back E6 x26
      -- the list written
      have nO : ∀ o, DEnv B σ (upd H5 D o) F6 _ S5 := fun o => by
        refine ⟨fun b z q => by rw [upd_ne (ne_of_none q h2)]; exact Eo.sub b z q, ⟨by rw [upd_ne (Ne.symm dA)]; exact Eo.src.1, by rw [upd_ne (Ne.symm dC)]; exact Eo.src.2.1, Eo.src.2.2⟩, Eo.fa, Eo.fc, fun b z q n1 n2 => ?_, Eo.mono, Eo.new, Eo.len, fun j s q => ?_, Eo.uni⟩
        · rw [upd_ne (ne_of_none q (E1.n0 hD))]; exact Eo.keep b z q n1 n2
        · have old := E1.sl j s q
          have now := Eo.sl j s q
          cases s with
          | un => trivial
          | im d => exact now
          | so => exact now
          | ow d =>
            obtain ⟨a, u1, u2, u3⟩ := now
            obtain ⟨a', v1, v2, _⟩ := old
            rw [u1] at v1; cases v1
            obtain ⟨oo, hh⟩ := v2.there
            have na : a ≠ D := ne_of_none hh hD
            exact ⟨a, u1, u2.mono (fun o q => by rw [upd_ne na]; exact q) (Sub.refl _), u3⟩
          | ro d =>
            obtain ⟨a, u1, u2, u3⟩ := now
            obtain ⟨a', v1, v2, _⟩ := old
            rw [u1] at v1; cases v1
            obtain ⟨oo, hh⟩ := v2.there
            have na : a ≠ D := ne_of_none hh hD
            exact ⟨a, u1, u2.mono (fun o q => by rw [upd_ne na]; exact q) (Sub.refl _), u3⟩
      have x17 := ext_run xc x26
      refine ⟨F6, S5, acc ++ [y], as ++ [e], es', hlt, nO _, ⟨fun b o q nb => ?_, x17.mono, x17.new, fun b q => ?_⟩, h2, upd_same, (rD.mono x26.mono).app (.cons a6 .nil), by rw [List.length_append]; simp; omega, e7, by rw [hes]; simp⟩
      · rw [upd_ne (ne_of_none q hD)]; exact x17.keep b o q nb
      · by_cases hb : b = D
        · subst hb; rw [upd_same] at q; cases q
        · rw [upd_ne hb] at q; exact x17.live b q
    | _ => cases ec
section
variable {X : Cx} {elt tg iter : Expr} {ifs : List Expr} {scope : Scope} {own : List (Str × Nat)} {it : SIt} {l vs : List Nat} {g : SG} {t : STt} {f : SE} {pos : Pos}
/-- [elt for tg in iter if ..] as a value -/
theorem dLc (hc : X.calm = true) (hN : X.N.Nodup) (hi : PI X tg iter (tIc it)) (ok : BlkOk X.N X.env.scope scope own) (hv : own.map (·.2) = vs) (hl : ∀ i ∈ l, i ∈ vs) (hw : GOw g)
    (hg : ∀ (s : Shared) (H : Hp) (C : Addr) (cl : List (Str × Addr)) (fp : List Addr), PG (X.blk s H scope (compEnvC scope cl C X.env) fp) tg (tG l g)) (ht : ∀ (s : Shared) (H : Hp) (C : Addr) (cl : List (Str × Addr)) (fp : List Addr), PTs (X.blk s H scope (compEnvC scope cl C X.env) fp) ifs (tT t))
    (he : ∀ (s : Shared) (H : Hp) (C : Addr) (cl : List (Str × Addr)) (fp : List Addr), PE (X.blk s H scope (compEnvC scope cl C X.env) fp) elt (tE f)) (hs : ∀ x, foldedSetIterable iter X.env x = pure x := by intro _; rfl) :
    PE X (.ListComp elt [⟨tg, iter, ifs, 0⟩] scope pos) (tE (eLc it vs g t f)) := by
  subst hv
  exact PE.imp (pe_lc hc hN hi ok hg ht he hs) fun _ _ _ q => lc_imp hl hw q
/-- name = [..] on one line -/
theorem dSetLc {i : Nat} {y : Str} {py spos : Pos} (hc : X.calm = true) (hN : X.N.Nodup) (hy : X.N[i]? = some y) (hyl : X.env.scope.names.lookup y = some .local)
    (hsw : swapsWith (.ListComp elt [⟨tg, iter, ifs, 0⟩] scope pos) (some (.Name y py)) spos.line X.env = pure true) (hi : PI X tg iter (tIc it)) (ok : BlkOk X.N X.env.scope scope own) (hv : own.map (·.2) = vs) (hl : ∀ i ∈ l, i ∈ vs) (hw : GOw g)
    (hg : ∀ (s : Shared) (H : Hp) (C : Addr) (cl : List (Str × Addr)) (fp : List Addr), PG (X.blk s H scope (compEnvC scope cl C X.env) fp) tg (tG l g)) (ht : ∀ (s : Shared) (H : Hp) (C : Addr) (cl : List (Str × Addr)) (fp : List Addr), PTs (X.blk s H scope (compEnvC scope cl C X.env) fp) ifs (tT t))
    (he : ∀ (s : Shared) (H : Hp) (C : Addr) (cl : List (Str × Addr)) (fp : List Addr), PE (X.blk s H scope (compEnvC scope cl C X.env) fp) elt (tE f)) (hs : ∀ x, foldedSetIterable iter X.env x = pure x := by intro _; rfl) :
    PS X (.Assign [.Name y py] (.ListComp elt [⟨tg, iter, ifs, 0⟩] scope pos) spos) (tS (sSet i (eLc it vs g t f))) := by
  subst hv
  refine PS.imp (ps_setLc hc hN hy hyl hsw hi ok hg ht he hs) fun D σ H q => ?_
  have z := set_imp q
  exact lc_imp hl hw z
end
end Dn

set_option Elab.async false
set_option linter.all false
set_option maxRecDepth 100000
set_option maxHeartbeats 4000000
/-! Dn11: defs called where no guard stands; the promise of a def over data. -/
namespace Dn
open PySem PySem.Spec PyProof.Rows L2

/-- a def's promise where no repr is under way -/
structure FnG (P : Program) (w : World) (K : PySem.W.Frag) (mg : Str → Option Value) (base : Heap) (k : Nat) (f : Addr) (fd : FuncData) (ps : List Str) (sp : Sp) : Prop where
  len : ∀ vs H Q E, sp vs H Q E → vs.length = ps.length
  go : ∀ (A : Around), A.guards = some [] → Room k A → ∀ (outer : List Env) (s : Shared) (H : Hp), Env0 P w K mg base A outer s H →
    ∀ (args : Args) (us : List Value), BindsTo s fd args (ps.zip us) → ∀ (vs : List V), Vals vs us → ∀ (Q : VK) (E : XK), sp vs H Q E →
      codeAny (model P w) A (.call (.ref f) args) (CR CX0 outer P w H s Q E) s
section
variable {P : Program} {w : World} {K : PySem.W.Frag} {mg : Str → Option Value} {base : Heap} {j k : Nat} {f : Addr} {fd : FuncData} {ps : List Str} {sp sp' : Sp}
theorem FnG.of (F : FnOk P w K mg base CX0 k f fd ps sp) : FnG P w K mg base k f fd ps sp := ⟨F.len, fun A _ hr outer s H e args us b vs r Q E q => F.run A outer s H args us vs Q E hr e b r q⟩
theorem FnG.mono (F : FnG P w K mg base j f fd ps sp) (h : j ≤ k) : FnG P w K mg base k f fd ps sp := ⟨F.len, fun A g hr => F.go A g (hr.mono h)⟩
theorem FnG.imp (F : FnG P w K mg base k f fd ps sp) (h : ∀ vs H Q E, sp' vs H Q E → sp vs H Q E) : FnG P w K mg base k f fd ps sp' :=
  ⟨fun vs H Q E q => F.len vs H Q E (h _ _ _ _ q), fun A g hr outer s H e args us b vs r Q E q => F.go A g hr outer s H e args us b vs r Q E (h _ _ _ _ q)⟩
theorem guards_deeper {A : Around} (h : A.guards = some []) (env : Env) : (A.deeper env).guards = some [] := by
  first | exact h | (simpa [Around.deeper] using h)
/-- a def by its body, no guard around -/
theorem fnG {x qual : Str} {st : Stmt} {N : List Str} (F : Fun K x qual st f fd) (S : FnScope N ps (defScope st)) (len : ∀ vs H Q E, sp vs H Q E → vs.length = ps.length)
    (body : ∀ (cdv : Value) (A : Around) (outer : List Env) (s : Shared) (H : Hp) (vs : List V) (Q : VK) (E : XK), A.guards = some [] → Room k (A.deeper (envOfC qual (defScope st) s.heap.objs.size f cdv)) → sp vs H Q E →
      ∃ t, PSs (cxOf CX0 P w K mg base N qual (defScope st) f cdv A outer s H E).nox (defBody st) t ∧ t { nx := fun _ H' => Q .non H', rt := Q } (L2.start N vs) H) : FnG P w K mg base (k + 1) f fd ps sp := by
  obtain ⟨oc, od, kV, doc, pm, an, cdv, ct, osl, rfl, at_f, code⟩ := F.ex
  refine ⟨len, fun A g room outer s H e0 args us bnd vs rel Q E wish => ?_⟩
  have hlen := len vs H Q E wish
  have inK : K.In s.heap := e0.mod.kin.keeps (fun b o z => (e0.bs b o z).1)
  have noLim := e0.mod.nolimit.keeps (h' := s.heap) (fun b o z => (e0.bs b o z).1)
  refine codeAny_call_function room.depth (inK _ _ at_f) rfl S.co S.gen rfl (PySem.W.codeRec_of inK code) (bnd _ _ _ _ ?_)
  refine wpAny_newFunctionEnv_cells S.kind (fun y hy => ?_) (fun env he s1 x => ?_)
  · obtain ⟨y, v⟩ := y
    have hp := (List.of_mem_zip hy).1
    cases S.par y hp with
    | inl q => exact .inl q
    | inr q => exact .inr ⟨q, PySem.W.cellsFrom_some _ _ _ (.inl q)⟩
  subst he
  refine ⟨noLim.keeps x.toInCall.keep, codeAny_func ?_⟩
  obtain ⟨t, run, hq⟩ := body cdv A outer s H vs Q E g (room.deeper _) wish
  have I := inv_start (CX := CX0) (qual := qual) (f := f) (cd := cdv) (A := A) (E := E) S room.hd e0 hlen rel x
  refine wpAny_mono (run.nox.run [] s1 (L2.start N vs) H _ I hq) (fun fl s' hs => ?_) (fun e s' hs => hs)
  cases fl with
  | next => obtain ⟨σ', H', J, q⟩ := hs; exact ⟨.non, H', J.os, J.bare, J.base, J.hok, rfl, q⟩
  | ret u => obtain ⟨v, σ', H', J, rv, q⟩ := hs; exact ⟨v, H', J.os, J.bare, J.base, J.hok, rv, q⟩
  | brk => obtain ⟨_, _, _, q⟩ := hs; exact q.elim
  | cont => obtain ⟨_, _, _, q⟩ := hs; exact q.elim
end
section
variable {X : Cx} {k : Nat} {f : Addr} {fd : FuncData} {ps : List Str} {sp : Sp} {E : XK} {x : Str} {p pos : Pos} {e : Expr} {es : List Expr} {t : TA}
theorem runG {pins : List (Addr × Obj)} {σ : St} {H : Hp} {s : Shared} {Q : VK} {us : List Value} {vs : List V} (F : FnG X.prog X.w X.K X.mg X.base k f fd ps sp) (hg : X.A.guards = some []) (hr : Room k X.A) (hb : Binds X.K fd ps [])
    (I : Inv X pins σ H s) (r : Vals vs us) (h : sp vs H Q E) : wpAny (model X.prog X.w) X.A (call (.ref f) us) (EP X pins σ Q) X.xe s := by
  have hl : (us ++ []).length = ps.length := by rw [List.append_nil, ← r.length]; exact F.len _ _ _ _ h
  have b := hb s us I.kIn hl
  rw [List.append_nil] at b
  refine wpAny_call (codeAny_mono (F.go X.A hg hr X.stack s H I.env0 ⟨us, []⟩ us b vs r Q E h) fun o s' hq => ?_)
  match o, hq with
  | .error _, hq => exact hq.elim
  | .ok (.ret u), hq => exact I.after hq
  | .ok .next, hq => exact False.elim hq
  | .ok .brk, hq => exact False.elim hq
  | .ok .cont, hq => exact False.elim hq
def tCallG (sp : Sp) (t : TA) : TE := fun σ H Q => t σ H fun vs H1 => sp vs H1 Q fun _ _ _ => False
theorem pe_callG (F : FnG X.prog X.w X.K X.mg X.base k f fd ps sp) (hG : X.A.guards = some []) (hr : Room k X.A) (hg : Gl X x) (hm : X.mg x = some (.ref f)) (hk : PySem.W.keepIn X.K (.ref f) = true) (hb : Binds X.K fd ps [])
    (ha : PA X (e :: es) t) (hdb : (x == ("__debug__" : Str)) = false := by decide) (he : starEach (e :: es) X.env = (false, eval e X.env) :: starEach es X.env := by rfl) (hpl : (backTo pos (starEach es X.env)).any (·.1) = false := by rfl) :
    PE X (.Call (.Name x p) (e :: es) [] pos) (tCallG sp t) := by
  refine ⟨fun pins s σ H Q I h => wpAny_Call_Name_kw (ld_glob I hg hm ?_ hdb)⟩
  exact PySem.W.callWith_K (h₀ := X.base) I.ok.mod.kin hk (thn (ha.run pos pins s σ H _ I h) fun us s1 ⟨vs, H1, I1, r, q⟩ => ⟨I1.kIn, runG F hG hr hb I1 r q⟩) he hpl
end

/-! ### the promise over data -/
abbrev FS := List Sl → Src → Option (PyData × Src)
def spD (n : Nat) (m : FS) : Sp := fun vs H Q _ => vs.length = n ∧ ∃ a0 c0 F S ss d S', Sub F H ∧ SrcAt H a0 c0 S ∧ F a0 = none ∧ F c0 = none ∧ ArgsOk ⟨H, F, a0, c0⟩ F vs ss ∧ m ss S = some (d, S') ∧
  ∀ v H' F', Sub F' H' → SrcAt H' a0 c0 S' → F' a0 = none → F' c0 = none → Sub F F' → Rp F' v d → (∀ b o, H b = some o → b ≠ a0 → b ≠ c0 → H' b = some o) → (∀ b, F' b ≠ none → F b ≠ none ∨ H b = none) → Q v H'
/-- a body over data, n names -/
def fnD (n : Nat) (b : SS) : FS := fun ss S => do
  let (fl, _, S') ← b (ss ++ List.replicate (n - ss.length) .un) S
  match fl with
  | .rt d => some (d, S')
  | .nx => some (.none, S')
  | _ => none
theorem ArgsOk.len {B : Bs} {F : Hp} {vs : List V} {ss : List Sl} (h : ArgsOk B F vs ss) : vs.length = ss.length := by
  induction h with
  | nil => rfl
  | cons _ _ ih => rw [List.length_cons, List.length_cons, ih]
theorem ArgsOk.at {B : Bs} {F : Hp} {vs : List V} {ss : List Sl} (h : ArgsOk B F vs ss) : ∀ {i : Nat} {s : Sl}, ss[i]? = some s → ∃ v, vs[i]? = some v ∧ ArgOk B F v s := by
  induction h with
  | nil => intro i s e; simp at e
  | cons a _ ih =>
    intro i s e
    cases i with
    | zero => simp at e; subst e; exact ⟨_, rfl, a⟩
    | succ i => obtain ⟨v, h1, h2⟩ := ih (i := i) (by simpa using e); exact ⟨v, by simpa using h1, h2⟩
theorem ArgsOk.home {B B' : Bs} {F : Hp} {vs : List V} {ss : List Sl} (h : ArgsOk B F vs ss) (e : B.a0 = B'.a0) : ArgsOk B' F vs ss := by
  induction h with
  | nil => exact .nil
  | @cons v s _ _ a _ ih =>
    refine .cons ?_ ih
    cases s with
    | so => show v = .ref B'.a0; rw [← e]; exact a
    | _ => exact a
/-- the slots at a def's entry -/
theorem DEnv.enter {H F : Hp} {a0 c0 : Addr} {S : Src} {N : List Str} {vs : List V} {ss : List Sl} (s1 : Sub F H) (s2 : SrcAt H a0 c0 S) (s3 : F a0 = none) (s4 : F c0 = none) (a : ArgsOk ⟨H, F, a0, c0⟩ F vs ss) (hl : vs.length ≤ N.length) :
    DEnv ⟨H, F, a0, c0⟩ (L2.start N vs) H F (ss ++ List.replicate (N.length - ss.length) .un) S := by
  have e := a.len
  have at' : ∀ (i : Nat) (s : Sl), (ss ++ List.replicate (N.length - ss.length) Sl.un)[i]? = some s → s = .un ∨ ∃ v, (L2.start N vs)[i]? = some (some v) ∧ ArgOk ⟨H, F, a0, c0⟩ F v s := fun i s h => by
    by_cases hi : i < ss.length
    · rw [List.getElem?_append_left hi] at h
      obtain ⟨v, h1, h2⟩ := a.at h
      refine .inr ⟨v, ?_, h2⟩
      unfold L2.start
      rw [List.getElem?_append_left (by simpa using (by omega)), List.getElem?_map, h1]
      rfl
    · rw [List.getElem?_append_right (by omega), List.getElem?_replicate] at h
      split at h
      · cases h; exact .inl rfl
      · cases h
  refine ⟨s1, s2, s3, s4, fun _ _ e _ _ => e, Sub.refl _, fun _ h => .inl h, ?_, fun i s h => ?_, fun i j d s b _ h => ?_⟩
  · unfold L2.start
    simp only [List.length_append, List.length_replicate, List.length_map]
    omega
  · rcases at' i s h with rfl | ⟨v, h1, h2⟩
    · trivial
    · cases s with
      | im d => exact ⟨v, h1, h2⟩
      | so => rw [show v = .ref a0 from h2] at h1; exact h1
      | _ => exact h2.elim
  · rcases at' i _ h with z | ⟨v, _, h2⟩
    · cases z
    · exact h2.elim
section
variable {P : Program} {w : World} {K : PySem.W.Frag} {mg : Str → Option Value} {base : Heap} {j k : Nat} {f : Addr} {fd : FuncData} {ps : List Str}
/-- a def by its body's meaning -/
theorem fnG_D {x qual : Str} {st : Stmt} {N : List Str} {b : SS} (F : Fun K x qual st f fd) (S : FnScope N ps (defScope st))
    (body : ∀ (X : Cx), X.prog = P → X.w = w → X.K = K → X.mg = mg → X.base = base → X.N = N → X.calm = true → (∀ y, X.fn y = true) → X.xe = (fun _ _ => False) → X.env.scope = defScope st → X.A.guards = some [] → Room k X.A → PSs X (defBody st) (tS b)) :
    FnG P w K mg base (k + 1) f fd ps (spD ps.length (fnD N.length b)) := by
  refine fnG F S (fun vs H Q E h => h.1) fun cdv A outer s H vs Q E g room wish => ?_
  obtain ⟨hl, a0, c0, F0, S0, ss, d, S', s1, s2, s3, s4, aok, hm, q⟩ := wish
  refine ⟨tS b, body _ rfl rfl rfl rfl rfl rfl rfl (fun _ => rfl) rfl rfl (guards_deeper g _) room, ?_⟩
  obtain ⟨⟨fl, ρ', S1⟩, e1, hm⟩ := bind_some hm
  have hN : vs.length ≤ N.length := by
    have := congrArg List.length S.pre
    rw [List.length_take] at this
    omega
  refine ⟨_, F0, _, S0, fl, ρ', S1, DEnv.enter s1 s2 s3 s4 aok hN, e1, fun σ' H' F' E' x => ?_⟩
  have fin : ∀ v, Rp F' v d → S1 = S' → Q v H' := fun v r e => by
    subst e
    exact q v H' F' E'.sub E'.src E'.fa E'.fc x r (fun b o z n1 n2 => E'.keep b o z n1 n2) fun b z => E'.new b z
  cases fl with
  | nx => cases hm; exact fin .non .non rfl
  | rt d' => cases hm; exact fun v r => fin v r rfl
  | bk => cases hm
  | ct => cases hm
/-- another meaning of it -/
theorem FnG.sem {n : Nat} {m m' : FS} (F : FnG P w K mg base k f fd ps (spD n m)) (h : ∀ ss S r, ss.length = n → m' ss S = some r → m ss S = some r) : FnG P w K mg base k f fd ps (spD n m') :=
  F.imp fun vs H Q E ⟨hl, a0, c0, F0, S0, ss, d, S', s1, s2, s3, s4, aok, hm, q⟩ => ⟨hl, a0, c0, F0, S0, ss, d, S', s1, s2, s3, s4, aok, h _ _ _ (by rw [← aok.len]; exact hl) hm, q⟩
end
/-! ### a def of the text called -/
def eCall (n : Nat) (m : FS) (g : SA) : SE := fun ρ S => do
  let (rs, ρ1, S1) ← g ρ S
  let (ss, ρ2) ← fzs ρ1 rs
  if ss.length = n then do
    let (d, S2) ← m ss S1
    some (.im d, ρ2, S2)
  else none
section
variable {X : Cx} {k n : Nat} {f : Addr} {fd : FuncData} {ps : List Str} {m : FS} {x : Str} {p pos : Pos} {e : Expr} {es : List Expr} {g : SA}
theorem dCall (F : FnG X.prog X.w X.K X.mg X.base k f fd ps (spD n m)) (hG : X.A.guards = some []) (hr : Room k X.A) (hg : Gl X x) (hm : X.mg x = some (.ref f)) (hk : PySem.W.keepIn X.K (.ref f) = true) (hb : Binds X.K fd ps [])
    (ha : PA X (e :: es) (tA g)) (hdb : (x == ("__debug__" : Str)) = false := by decide) (he : starEach (e :: es) X.env = (false, eval e X.env) :: starEach es X.env := by rfl) (hpl : (backTo pos (starEach es X.env)).any (·.1) = false := by rfl) :
    PE X (.Call (.Name x p) (e :: es) [] pos) (tE (eCall n m g)) := by
  refine PE.imp (pe_callG F hG hr hg hm hk hb ha hdb he hpl) ?_
  rintro σ H Q ⟨B, F, ρ, S, r, ρ', S', E, e, q⟩
  obtain ⟨⟨rs, ρ1, S1⟩, e1, e⟩ := bind_some e
  obtain ⟨⟨ss, ρ2⟩, e2, e⟩ := bind_some e
  replace e : (if ss.length = n then (do
    let (d, S2) ← m ss S1
    some (Vl.im d, ρ2, S2)) else none) = some (r, ρ', S') := e
  by_cases hn : ss.length = n
  case neg => rw [if_neg hn] at e; cases e
  rw [if_pos hn] at e
  obtain ⟨⟨d, S2⟩, e3, e⟩ := bind_some e
  cases e
  refine args_imp E e1 e2 fun vs H1 F2 E2 x2 o2 a2 => ?_
  have al := a2.len
  have a2' : ArgsOk ⟨H1, F2, B.a0, B.c0⟩ F2 vs ss := by
    exact a2.home rfl
  refine ⟨al.trans hn, B.a0, B.c0, F2, S1, ss, d, _, E2.sub, E2.src, E2.fa, E2.fc, a2', e3, fun v H' F' s1 s2 s3 s4 s5 r kp nw => ?_⟩
  have keepF : ∀ a o, H1 a = some o → F2 a = none → F' a = none := fun a o ha hf => by
    cases z : F' a with
    | none => rfl
    | some o' =>
      rcases nw a (by rw [z]; simp) with w | w
      · exact absurd hf w
      · rw [ha] at w; cases w
  have E3 : DEnv B σ H' F' ρ' S' := by
    refine ⟨s1, s2, s3, s4, fun b o z n1 n2 => kp b o (E2.keep b o z n1 n2) n1 n2, E2.mono.trans s5, fun b z => ?_, E2.len, fun i s z => ?_, E2.uni⟩
    · rcases nw b z with w | w
      · exact E2.new b w
      · exact .inr (E2.n0 w)
    · have sl := E2.sl i s z
      cases s with
      | un => trivial
      | im d => obtain ⟨u, h1, h2⟩ := sl; exact ⟨u, h1, h2.mono s5⟩
      | ow d => obtain ⟨a, h1, h2, h3, h4, h5, h6⟩ := sl; exact ⟨a, h1, h2.mono (fun o q => kp a o q h5 h6) s5, (let ⟨o, q⟩ := h2.there; keepF a o q h3), h4, h5, h6⟩
      | ro d => obtain ⟨a, h1, h2, h5, h6⟩ := sl; exact ⟨a, h1, h2.mono (fun o q => kp a o q h5 h6) s5, h5, h6⟩
      | so => exact sl
  have x3 : Ext (DOwn B σ ρ) F2 H1 F' H' := ⟨fun b o z nb => kp b o z (fun w => nb (.inl w)) (fun w => nb (.inr (.inl w))), s5, fun b z => by
    rcases nw b z with w | w
    · exact .inl w
    · exact .inr (.inr w), fun b z => by
    cases w : H1 b with
    | none => rfl
    | some o =>
      by_cases h1 : b = B.a0
      · rw [h1, s2.1] at z; cases z
      · by_cases h2 : b = B.c0
        · rw [h2, s2.2.1] at z; cases z
        · rw [kp b o w h1 h2] at z; cases z⟩
  exact q v H' F' E3 (x2.trans x3 fun b z => .inl z) o2 r fun d a h => by cases h
end
end Dn

set_option Elab.async false
set_option linter.all false
set_option maxRecDepth 100000
set_option maxHeartbeats 4000000
/-! Dn12: the head of a law whose def is a FnG. -/
namespace Dn
open PySem PySem.Spec PyProof.Rows L2

section
variable {P : Program} {w : World} {K : PySem.W.Frag} {mg mb : Str → Option Value} {k : Nat} {fa a : Addr} {fd : FuncData} {x : Str} {sp : Sp} {s₁ : Shared} {vs : List Value} {ns : List Int}
/-- what is tracked at the start: the script, unless the module's part knows it -/
def scrH (K : PySem.W.Frag) (a : Addr) (o : Obj) (ns : List Int) : Hp := fun b => if b = a ∧ K.lookup a = none then some (.frz o (.lst (ns.map V.int))) else none
theorem scrH_some {o : Obj} {b : Addr} {u : HO} (h : scrH K a o ns b = some u) : b = a ∧ K.lookup a = none ∧ u = .frz o (.lst (ns.map V.int)) := by
  unfold scrH at h
  split at h
  · rename_i c; cases h; exact ⟨c.1, c.2, rfl⟩
  · cases h
/-- a law's call, from its def's promise -/
theorem top_run (hK : K.In s₁.heap) (hg : s₁.heap.Ns mainGlobals mg) (hb : s₁.heap.Ns builtinsNs mb) (hbb : ∀ x : Str, x ≠ "__name__" → mb x = bootBuiltins x) (hlim : s₁.heap.NoLimit) (hgen : s₁.gens = #[])
    (ha : s₁.heap.get? a = some { cls := .type "list", data := .seq vs.toArray }) (hi : IntsAre vs ns) (hl : ns.length ≤ sizeLine) (hr : Room k callerA) (hG : callerA.guards = some [])
    (F : ∀ base : Heap, K.In base → base.Ns mainGlobals mg → FnG P w K mg base k fa fd [x] sp) (hbind : ∀ (s : Shared) (u : Value), BindsTo s fd ⟨[u], []⟩ [(x, u)])
    (hsp : ∀ H : Hp, (∀ b, H b = none ∨ ∃ o xs, H b = some (.frz o (.lst xs))) → SqL K H a (ns.map V.int) → sp [.ref a] H (fun v _ => v = .bl true) fun _ _ _ => False) :
    codeAny (model P w) callerA (.call (.ref fa) ⟨[.ref a], []⟩) (fun r s' => r = .ok (.ret (.bool true)) ∧ OldK s₁.heap s'.heap ∧ s'.os = s₁.os ∧ AllBare s'.gens) s₁ := by
  have rel := vals_ints hi
  have lv := hi.length
  let ob : Obj := { cls := .type "list", data := .seq vs.toArray }
  -- the script as a list
  have seen : SqL K (scrH K a ob ns) a (ns.map V.int) := by
    cases q : K.lookup a with
    | none => exact .inl (.inr ⟨ob, if_pos ⟨rfl, q⟩⟩)
    | some o =>
      have e := hK a o q
      rw [ha] at e
      cases e
      exact .inr ⟨_, vs.toArray, _, q, rfl, rfl, rfl, by rw [List.size_toArray, lv]; exact hl, by simpa using rel⟩
  have okH : HOk P w (scrH K a ob ns) s₁.heap := fun b u e => by
    obtain ⟨rfl, _, rfl⟩ := scrH_some e
    exact ⟨ha, by rw [List.length_map]; exact hl, vs, _, rel, ha⟩
  have only : ∀ b, scrH K a ob ns b = none ∨ ∃ o xs, scrH K a ob ns b = some (.frz o (.lst xs)) := fun b => by
    cases q : scrH K a ob ns b with
    | none => exact .inl rfl
    | some u => obtain ⟨_, _, rfl⟩ := scrH_some q; exact .inr ⟨_, _, rfl⟩
  generalize hH : scrH K a ob ns = H at seen okH only
  have dict0 : ∀ {b : Addr} {o : Obj} {es : Array DictEntry} {ep : Nat}, s₁.heap.get? b = some o → o.data = .dict es ep → H b = none := fun {b o es ep} e d => by
    cases q : H b with
    | none => rfl
    | some u =>
      rw [← hH] at q
      obtain ⟨rfl, _, _⟩ := scrH_some q
      rw [ha] at e
      cases e
      cases (show Data.seq vs.toArray _ = Data.dict es ep from d)
  have ns0 : ∀ {b : Addr} {m : Str → Option Value}, s₁.heap.Ns b m → (hidT s₁.heap H).Ns b m := fun {b m} ⟨o, es, ep, e, d, r⟩ => ⟨o, es, ep, hidT_get e (dict0 e d), d, r⟩
  have k0 : K.In (hidT s₁.heap H) := fun b o e => hidT_get (hK b o e) (by
    cases q : H b with
    | none => rfl
    | some u =>
      rw [← hH] at q
      obtain ⟨rfl, z, _⟩ := scrH_some q
      rw [z] at e
      cases e)
  have mod : Mod K mg (hidT s₁.heap H) := ⟨k0, ns0 hg, ⟨mb, ns0 hb, hbb⟩, (let ⟨mc, c1, c2⟩ := hlim; ⟨mc, ns0 c1, c2⟩)⟩
  have env : Env0 P w K mg (hidT s₁.heap H) callerA [] s₁ H := ⟨rfl, mod, fun b o e => of_hidT e, Nat.le_of_eq (hidT_size _ _), trivial, (fun b z => absurd (show b ∈ ([] : List Addr) from z) (by simp)), okH, .of_eq hgen⟩
  refine codeAny_mono ((F _ k0 (ns0 hg)).go callerA hG hr [] s₁ H env ⟨[.ref a], []⟩ [.ref a] (hbind s₁ (.ref a)) [.ref a] (.cons rfl .nil) _ _ (hsp H only seen)) fun r s' h => ?_
  match r, h with
  | .error _, h => exact h.elim
  | .ok .next, h => exact False.elim h
  | .ok .brk, h => exact False.elim h
  | .ok .cont, h => exact False.elim h
  | .ok (.ret u), h =>
    obtain ⟨v, H', os, bare, un, ok', r', q⟩ := h
    obtain rfl : v = .bl true := q
    obtain rfl : u = Value.bool true := r'
    refine ⟨rfl, OldK.of_keep fun b o e => ?_, os, bare⟩
    rcases only b with z | ⟨o', xs, z⟩
    · exact un.keep b o e z (fun z => absurd (show b ∈ ([] : List Addr) from z) (by simp)) (by simp)
    · have z' := un.frzs b o' _ z
      have h1 := (okH b _ z).1
      rw [e] at h1
      cases h1
      exact (ok' b _ z').1
end
/-- the goal behind the top, from the law's promise -/
theorem top_walk {l : PySem.W.OpenLaw} {n k : Nat} {q : Program} {loose : List Str} {XP : (Str → Option Value) → Heap → Prop} {YP : World → Heap → Prop} {d : DefRec} {K : Params → PySem.W.Frag} {sp : World → Sp} {x : Str}
    (hn : l.most = some n) (hn2 : n ≤ sizeLine) (hdf : d.params.defaults = []) (hr : Room k callerA) (hG : callerA.guards = some []) (hY : ∀ (w : World) (h : Heap), YP w h → (K w.params).In h)
    (F : ∀ (w : World) (mg : Str → Option Value) (fa : Addr) (h : Heap), (K w.params).In h → h.Ns mainGlobals mg → mg d.name = some (.ref fa) →
      ∃ fd : FuncData, (∀ (s : Shared) (u : Value), BindsTo s fd ⟨[u], []⟩ [(x, u)]) ∧ ∀ base : Heap, (K w.params).In base → base.Ns mainGlobals mg → FnG l.prog w (K w.params) mg base k fa fd [x] (sp w))
    (hsp : ∀ (w : World) (H : Hp) (a : Addr) (ns : List Int), ns.length ≤ n → (∀ b, H b = none ∨ ∃ o xs, H b = some (.frz o (.lst xs))) → SqL (K w.params) H a (ns.map V.int) → sp w [.ref a] H (fun v _ => v = .bl true) fun _ _ _ => False) :
    PySem.W.WalkO q loose XP YP l.row.toRowW d [] (fun f vs => PySem.call f vs) := by
  refine Att.attach_call hn hdf fun w s₀ s₁ mg mb fa o pm cd doc a vs ns G Y ho hd hcd hmg hobj hints hlen hgen => ?_
  obtain ⟨fd, hb, hF⟩ := F w mg fa s₁.heap (hY w _ Y) G.T.g hmg
  exact top_run (hY w _ Y) G.T.g G.T.b G.T.builtins G.T.nolimit hgen hobj hints (Nat.le_trans hlen hn2) hr hG hF hb fun H hO hS => hsp w H a ns hlen hO hS
example : callerA.guards = some [] := rfl
example : Room 60 callerA := ⟨rfl, by decide, by decide⟩
end Dn

set_option Elab.async false
set_option linter.all false
set_option maxRecDepth 100000
set_option maxHeartbeats 4000000
/-! Dn13: methods that change a list that a name owns; repr; chained comparisons. -/
namespace Dn
open PySem PySem.Spec PyProof.Rows L2

/-! ### x.m(..), x a name that owns its list -/
def isLst : PyData → Bool
  | .list _ => true
  | _ => false
/-- the list in slot i is changed; what is given is a known value -/
def eOwn (i : Nat) (g : List PyData → List PyData → Option (List PyData × PyData)) (a : SA) : SE := fun ρ S =>
  match ρ[i]? with
  | some (.ow (.list _)) => do
    let (rs, ρ1, S1) ← a ρ S
    let (ss, ρ2) ← fzs ρ1 rs
    let es ← imsOf ss
    match ρ2[i]? with
    | some (.ow (.list ds)) => do
      let (ds', r) ← g ds es
      some (.im r, ρ2.set i (.ow (.list ds')), S1)
    | _ => none
  | _ => none
structure OpM (r : V → List V → Hp → VK → Prop) (g : List PyData → List PyData → Option (List PyData × PyData)) : Prop where
  run : ∀ (H F : Hp) (a : Addr) (xs vs : List V) (ds es ds' : List PyData) (d : PyData) (Q : VK), Sub F H → H a = some (.lst xs) → xs.length ≤ sizeLine → RpA F xs ds → RpA F vs es → g ds es = some (ds', d) →
    (∀ ys v, ys.length ≤ sizeLine → RpA F ys ds' → Rp F v d → Q v (upd H a (.lst ys))) → r (.ref a) vs H Q
theorem own_imp {K : PySem.W.Frag} {i : Nat} {r : V → List V → Hp → VK → Prop} {g : List PyData → List PyData → Option (List PyData × PyData)} {a : SA} (ho : OpM r g) {σ : St} {H : Hp} {Q : VK} (q : tE (eOwn i g a) σ H Q) : tBM K "list" r (tVar i) (tA a) σ H Q := by
  obtain ⟨B, F, ρ, S, r', ρ', S', E, e, k⟩ := q
  unfold eOwn at e
  cases z : ρ[i]? with
  | none => rw [z] at e; cases e
  | some t =>
    rw [z] at e
    cases t with
    | ow d =>
      cases d with
      | list ds0 =>
        obtain ⟨⟨rs, ρ1, S1⟩, e1, e⟩ := bind_some e
        obtain ⟨⟨ss, ρ2⟩, e2, e⟩ := bind_some e
        obtain ⟨es, e3, e⟩ := bind_some e
        obtain ⟨b, hb, ⟨xs0, o1, o2, o3⟩, _⟩ := E.sl i _ z
        refine ⟨_, hb, .inl ⟨rfl, xs0, SqL.of o1⟩, ?_⟩
        refine args_imp E e1 e2 fun vs H1 F2 E2 x2 w2 a2 => ?_
        have ra := a2.ims e3
        cases z2 : ρ2[i]? with
        | none => rw [z2] at e; cases e
        | some t2 =>
          rw [z2] at e
          cases t2 with
          | ow d2 =>
            cases d2 with
            | list ds =>
              obtain ⟨⟨ds', d⟩, e4, e⟩ := bind_some e
              cases e
              obtain ⟨b', hb', ⟨xs, p1, p2, p3⟩, _⟩ := E2.sl i _ z2
              rw [hb] at hb'
              cases hb'
              refine ho.run H1 F2 b xs vs ds es ds' d Q E2.sub p1 p2 p3 ra e4 fun ys v y1 y2 y3 => ?_
              obtain ⟨E3, x3, w3⟩ := E2.write (d' := .list ds') (o := .lst ys) z2 hb ⟨ys, upd_same, y1, y2⟩
              exact k v _ _ E3 (x2.trans x3 fun b z => .inl (w2 b z)) (fun b z => w2 b (w3 b z)) y3 fun d a h => by cases h
            | _ => cases e
          | _ => cases e
      | _ => cases e
    | _ => cases e
def oAppend : List PyData → List PyData → Option (List PyData × PyData)
  | ds, [d] => if ds.length < sizeLine then some (ds ++ [d], .none) else none
  | _, _ => none
theorem opAppend : OpM rAppend oAppend where
  run := fun H F a xs vs ds es ds' d Q s h1 h2 h3 h4 h5 h6 => by
    match es, h4, h5 with
    | [e], .cons (v := v) r .nil, h5 =>
      replace h5 : (if ds.length < sizeLine then some (ds ++ [e], PyData.none) else none) = some (ds', d) := h5
      have hl := h3.len
      by_cases c : ds.length < sizeLine
      · rw [if_pos c] at h5
        cases h5
        exact ⟨a, xs, v, rfl, rfl, h1, by omega, h6 _ _ (by rw [List.length_append]; simp; omega) (h3.app (.cons r .nil)) .non⟩
      · rw [if_neg c] at h5; cases h5
def oExtend : List PyData → List PyData → Option (List PyData × PyData)
  | ds, [.list es] => if ds.length + es.length ≤ sizeLine then some (ds ++ es, .none) else none
  | _, _ => none
theorem opExtend : OpM rExtend oExtend where
  run := fun H F a xs vs ds es ds' d Q s h1 h2 h3 h4 h5 h6 => by
    match es, h4, h5 with
    | [.list es], .cons (.lst (a := b) (xs := zs) f1 f2 f3) .nil, h5 =>
      replace h5 : (if ds.length + es.length ≤ sizeLine then some (ds ++ es, PyData.none) else none) = some (ds', d) := h5
      have hl := h3.len
      have hl2 := f3.len
      by_cases c : ds.length + es.length ≤ sizeLine
      · rw [if_pos c] at h5
        cases h5
        exact ⟨a, b, xs, zs, rfl, rfl, h1, s _ _ f1, by omega, h6 _ _ (by rw [List.length_append]; omega) (h3.app f3) .non⟩
      · rw [if_neg c] at h5; cases h5
def oPop : List PyData → List PyData → Option (List PyData × PyData)
  | ds, [] => match ds[ds.length - 1]? with
    | some d => some (ds.dropLast, d)
    | none => none
  | _, _ => none
def oPopAt : List PyData → List PyData → Option (List PyData × PyData)
  | ds, [.int i] => if -(2 ^ 63) ≤ i ∧ i < 2 ^ 63 then match seqIndex? i ds.length with
    | some k => match ds[k]? with
      | some d => some (ds.eraseIdx k, d)
      | none => none
    | none => none
    else none
  | _, _ => none
theorem opPopAt : OpM rPopAt oPopAt where
  run := fun H F a xs vs ds es ds' d Q s h1 h2 h3 h4 h5 h6 => by
    match es, h4, h5 with
    | [.int i], .cons (.int _) .nil, h5 =>
      replace h5 : (if -(2 ^ 63) ≤ i ∧ i < 2 ^ 63 then (match seqIndex? i ds.length with
        | some k => match ds[k]? with
          | some d => some (ds.eraseIdx k, d)
          | none => none
        | none => none) else none) = some (ds', d) := h5
      have hl := h3.len
      by_cases c : -(2 ^ 63) ≤ i ∧ i < 2 ^ 63
      · rw [if_pos c] at h5
        cases c1 : seqIndex? i ds.length with
        | none => rw [c1] at h5; cases h5
        | some k =>
          rw [c1] at h5
          cases c2 : ds[k]? with
          | none => simp only [c2] at h5; cases h5
          | some d0 =>
            simp only [c2] at h5
            cases h5
            obtain ⟨x, x1, x2⟩ := h3.get c2
            exact ⟨a, xs, i, k, x, rfl, rfl, h1, c.1, c.2, by rw [hl]; exact c1, x1, h6 _ _ (Nat.le_trans (len_erase xs k) h2) (h3.erase k) x2⟩
      · rw [if_neg c] at h5; cases h5
theorem opPop : OpM rPop oPop where
  run := fun H F a xs vs ds es ds' d Q s h1 h2 h3 h4 h5 h6 => by
    match es, h4, h5 with
    | [], .nil, h5 =>
      replace h5 : (match ds[ds.length - 1]? with
        | some d => some (ds.dropLast, d)
        | none => none) = some (ds', d) := h5
      have hl := h3.len
      cases c2 : ds[ds.length - 1]? with
      | none => rw [c2] at h5; cases h5
      | some d0 =>
        rw [c2] at h5
        cases h5
        obtain ⟨x, x1, x2⟩ := h3.get c2
        exact ⟨a, xs, x, rfl, rfl, h1, by rw [hl]; exact x1, h6 _ _ (by rw [List.length_dropLast]; omega) h3.dropLast x2⟩
    | _ :: _, .cons _ _, h5 => cases h5
theorem own_imp0 {K : PySem.W.Frag} {i : Nat} {r : V → List V → Hp → VK → Prop} {g : List PyData → List PyData → Option (List PyData × PyData)} (ho : OpM r g) {σ : St} {H : Hp} {Q : VK} (q : tE (eOwn i g aNil) σ H Q) : tBM0 K "list" r (tVar i) σ H Q := by
  obtain ⟨x, h1, h2, h3⟩ := own_imp (K := K) ho q
  refine ⟨x, h1, h2, ?_⟩
  obtain ⟨B, F, ρ, S, rs, ρ', S', E, e, k⟩ := h3
  cases e
  exact k [] H F E (Ext.refl _ _ _) (fun _ z => z) .nil fun j d a h => by simp at h
section
variable {X : Cx} {i : Nat} {o e : Expr} {es : List Expr} {a : SA} {apos cpos : Pos}
theorem dAppend (ho : PE X o (tVar i)) (ha : PA X (e :: es) (tA a)) (hb : attributeBase o ("append" : Str) X.env (eval o X.env) = eval o X.env := by rfl)
    (hfew : ((backTo cpos (starEach (e :: es) X.env)).all (fun x => !x.1) && (backToKw cpos (keywordEach [] X.env)).all (fun x => x.1.isSome) && decide ((e :: es).length + ([] : List Keyword).length + (if ([] : List Keyword).isEmpty then 0 else 1) < 30)) = true := by rfl)
    (hline : (apos.endLine == cpos.line) = true := by rfl) (hs : starEach (e :: es) X.env = (false, eval e X.env) :: starEach es X.env := by rfl) (hplain : (backTo cpos (starEach es X.env)).any (·.1) = false := by rfl) :
    PE X (.Call (.Attribute o "append" apos) (e :: es) [] cpos) (tE (eOwn i oAppend a)) :=
  PE.imp (pe_bm PySem.F.plainAttrs_list PySem.F.slot_list_append PySem.F.type_list_append mt_append ho ha hb hfew hline hs hplain) fun _ _ _ q => own_imp opAppend q
theorem dExtend (ho : PE X o (tVar i)) (ha : PA X (e :: es) (tA a)) (hb : attributeBase o ("extend" : Str) X.env (eval o X.env) = eval o X.env := by rfl)
    (hfew : ((backTo cpos (starEach (e :: es) X.env)).all (fun x => !x.1) && (backToKw cpos (keywordEach [] X.env)).all (fun x => x.1.isSome) && decide ((e :: es).length + ([] : List Keyword).length + (if ([] : List Keyword).isEmpty then 0 else 1) < 30)) = true := by rfl)
    (hline : (apos.endLine == cpos.line) = true := by rfl) (hs : starEach (e :: es) X.env = (false, eval e X.env) :: starEach es X.env := by rfl) (hplain : (backTo cpos (starEach es X.env)).any (·.1) = false := by rfl) :
    PE X (.Call (.Attribute o "extend" apos) (e :: es) [] cpos) (tE (eOwn i oExtend a)) :=
  PE.imp (pe_bm PySem.F.plainAttrs_list PySem.F.slot_list_extend PySem.F.type_list_extend mt_extend ho ha hb hfew hline hs hplain) fun _ _ _ q => own_imp opExtend q
theorem dPopAt (ho : PE X o (tVar i)) (ha : PA X (e :: es) (tA a)) (hb : attributeBase o ("pop" : Str) X.env (eval o X.env) = eval o X.env := by rfl)
    (hfew : ((backTo cpos (starEach (e :: es) X.env)).all (fun x => !x.1) && (backToKw cpos (keywordEach [] X.env)).all (fun x => x.1.isSome) && decide ((e :: es).length + ([] : List Keyword).length + (if ([] : List Keyword).isEmpty then 0 else 1) < 30)) = true := by rfl)
    (hline : (apos.endLine == cpos.line) = true := by rfl) (hs : starEach (e :: es) X.env = (false, eval e X.env) :: starEach es X.env := by rfl) (hplain : (backTo cpos (starEach es X.env)).any (·.1) = false := by rfl) :
    PE X (.Call (.Attribute o "pop" apos) (e :: es) [] cpos) (tE (eOwn i oPopAt a)) :=
  PE.imp (pe_bm PySem.F.plainAttrs_list PySem.F.slot_list_pop PySem.F.type_list_pop mt_popAt ho ha hb hfew hline hs hplain) fun _ _ _ q => own_imp opPopAt q
theorem dPop (ho : PE X o (tVar i)) (hb : attributeBase o ("pop" : Str) X.env (eval o X.env) = eval o X.env := by rfl) (hline : (apos.endLine == cpos.line) = true := by rfl) :
    PE X (.Call (.Attribute o "pop" apos) [] [] cpos) (tE (eOwn i oPop aNil)) :=
  PE.imp (pe_bm0 PySem.F.plainAttrs_list PySem.F.slot_list_pop PySem.F.type_list_pop mt_pop ho hb hline) fun _ _ _ q => own_imp0 opPop q
end

/-! ### repr -/
/-- d may be shown -/
def RepOk (d : PyData) : Prop := d.showable = true ∧ d.hasDict = false ∧ d.depth ≤ 30 ∧ d.shown.length ≤ sizeLine
instance (d : PyData) : Decidable (RepOk d) := by unfold RepOk; infer_instance
def gRepr : List PyData → Option Rs
  | [d] => if RepOk d then some (.im (.str d.shown)) else none
  | _ => none
mutual
theorem Rp.dpN {K : PySem.W.Frag} {H F : Hp} (s : Sub F H) : ∀ {v : V} {d : PyData}, Rp F v d → d.hasDict = false → Dp K H v d
  | _, _, .non, _ => .non
  | _, _, .bl b, _ => .bl b
  | _, _, .int i, _ => .int i
  | _, _, .str x, _ => .str x
  | _, _, .lst h _ r, n => .lst (SqL.of (s _ _ h)) (RpA.dpN s r (by simpa only [PyData.hasDict] using n))
  | _, _, .tup h _ r, n => .tup (SqT.of (s _ _ h)) (RpA.dpN s r (by simpa only [PyData.hasDict] using n))
  | _, _, .dk _ _, n => by simp only [PyData.hasDict] at n; cases n
  | _, _, .dt _ _ _, n => by simp only [PyData.hasDict] at n; cases n
theorem RpA.dpN {K : PySem.W.Frag} {H F : Hp} (s : Sub F H) : ∀ {v : List V} {d : List PyData}, RpA F v d → PyData.hasDictAll d = false → DpAll K H v d
  | _, _, .nil, _ => .nil
  | _, _, .cons h r, n => by
    simp only [PyData.hasDictAll, Bool.or_eq_false_iff] at n
    exact .cons (Rp.dpN s h n.1) (RpA.dpN s r n.2)
end
theorem Rd1.dpN {K : PySem.W.Frag} {H F : Hp} (s : Sub F H) {v : V} {d : PyData} (h : Rd1 H F v d) (n : d.hasDict = false) : Dp K H v d := by
  rcases h with h | ⟨a, rfl, h⟩
  · exact h.dpN s n
  · cases d with
    | list ds => obtain ⟨xs, h1, _, h3⟩ := h; exact .lst (SqL.of h1) (h3.dpN s (by simpa only [PyData.hasDict] using n))
    | dict ds => simp only [PyData.hasDict] at n; cases n
    | _ => exact h.elim
def rRepr (K : PySem.W.Frag) : List V → Hp → VK → Prop := fun xs H Q => ∃ v d, xs = [v] ∧ Dp K H v d ∧ RepOk d ∧ Q (.str d.shown) H
theorem call_reprD {X : Cx} (hg : X.A.guards = some []) (hu : X.A.units + 64 < cLine) : CallR X (.builtin "repr") (rRepr X.K) := by
  intro pins s σ H xs us Q I r h
  obtain ⟨v, d, rfl, dp, ⟨h1, h2, h3, h4⟩, q⟩ := h
  obtain ⟨u, rfl, rv⟩ := vals1 r
  cases d with
  | none => cases dp; cases rv; exact PySem.P.repr_of_none ⟨.str _, H, I.tok _, ⟨_, rfl⟩, q⟩
  | bool b =>
    cases dp
    cases rv
    exact PySem.P.repr_of_bool ⟨.str _, H, I.tok _, ⟨_, rfl⟩, q⟩
  | int i =>
    cases dp
    obtain ⟨t, rfl⟩ := rv
    exact PySem.P.repr_of_int (by simpa [PyData.showable] using h1) ⟨.str _, H, I.tok _, ⟨_, rfl⟩, q⟩
  | str x =>
    cases dp
    obtain ⟨t, rfl⟩ := rv
    exact PySem.P.repr_of_str ⟨.str _, H, I.tok _, ⟨_, rfl⟩, q⟩ h4
  | list ds =>
    obtain ⟨as, rd⟩ := Dp.reads I _ _ _ dp rv
    cases dp
    cases rv
    exact repr_of_reads' rd h1 (PyData.noDict_hsm h2) hg (by omega) (fun _ _ e => e) (fun h' u tk hk => ⟨.str _, H, I.kept hk, ⟨_, rfl⟩, q⟩) h4
  | tuple ds =>
    obtain ⟨as, rd⟩ := Dp.reads I _ _ _ dp rv
    cases dp
    cases rv
    exact repr_of_reads' rd h1 (PyData.noDict_hsm h2) hg (by omega) (fun _ _ e => e) (fun h' u tk hk => ⟨.str _, H, I.kept hk, ⟨_, rfl⟩, q⟩) h4
  | dict ds => simp only [PyData.hasDict] at h2; cases h2
theorem opRepr {K : PySem.W.Frag} : OpN (rRepr K) gRepr where
  run := fun H F vs ds o Q s hv h r => by
    match ds, hv, h with
    | [d], .cons (v := v) h1 .nil, h =>
      replace h : (if RepOk d then some (Rs.im (.str d.shown)) else none) = some o := h
      by_cases c : RepOk d
      · rw [if_pos c] at h
        cases h
        exact ⟨v, d, rfl, h1.dpN s c.2.1, c, r.1 _ (.str _)⟩
      · rw [if_neg c] at h; cases h

/-! ### a < b < c -/
def eChn (g g' : PyData → PyData → Option Rs) (fa fb fc : SE) : SE := fun ρ S => do
  let (r1, ρ1, S1) ← fa ρ S
  let (r2, ρ2, S2) ← fb ρ1 S1
  let d1 ← datOf ρ2 r1
  let d2 ← datOf ρ2 r2
  let r ← g d1 d2
  match r with
  | .im (.bool true) => do
    let (r3, ρ3, S3) ← fc ρ2 S2
    let e2 ← datOf ρ3 r2
    let e3 ← datOf ρ3 r3
    let o ← g' e2 e3
    some (o.vl, ρ3, S3)
  | .im (.bool false) => some (.im (.bool false), ρ2, S2)
  | _ => none
theorem chn_imp {r r' : R2} {g g' : PyData → PyData → Option Rs} {fa fb fc : SE} (h1 : Op2 r g) (h2 : Op2 r' g') {σ : St} {H : Hp} {Q : VK} (q : tE (eChn g g' fa fb fc) σ H Q) : tChain r r' (tE fa) (tE fb) (tE fc) σ H Q := by
  obtain ⟨B, F, ρ, S, o, ρ', S', E, e, k⟩ := q
  obtain ⟨⟨r1, ρ1, S1⟩, e1, e⟩ := bind_some e
  obtain ⟨⟨r2, ρ2, S2⟩, e2, e⟩ := bind_some e
  obtain ⟨d1, e3, e⟩ := bind_some e
  obtain ⟨d2, e4, e⟩ := bind_some e
  obtain ⟨z, e5, e⟩ := bind_some e
  refine two_imp (R := fun x y H2 => r x y H2 fun z H3 => ∃ k, z = .bl k ∧ (if k = true then tE fc σ H3 fun w' H4 => r' y w' H4 Q else Q (.bl false) H3)) E e1 e2 fun v w H2 F2 E2 x2 o2 ok1 ok2 _ _ _ => ?_
  refine h1.run H2 F2 v w d1 d2 z _ E2.sub (ok1.rd E2 e3) (ok2.rd E2 e4) e5 ?_
  have kk := KE.after x2 o2 k
  match z, e with
  | .im (.bool false), e =>
    cases e
    refine ⟨fun u a => ?_, fun xs ds h => by cases h⟩
    cases a
    exact ⟨false, rfl, iteF (KE.val E2 (fun _ z => z) kk (.bl false) fun d h => by cases h)⟩
  | .im (.bool true), e =>
    obtain ⟨⟨r3, ρ3, S3⟩, e6, e⟩ := bind_some e
    obtain ⟨f2, e7, e⟩ := bind_some e
    obtain ⟨f3, e8, e⟩ := bind_some e
    obtain ⟨u, e9, e⟩ := bind_some e
    cases e
    refine ⟨fun u' a => ?_, fun xs ds h => by cases h⟩
    cases a
    refine ⟨true, rfl, iteT ⟨B, F2, ρ2, S2, r3, _, _, E2, e6, fun w3 H4 F4 E4 x4 o4 ok4 fr4 => ?_⟩⟩
    have ok2' := ok2.stay x4 (fun a d h1 h2 m => by
      subst h1
      obtain ⟨a', h3, _, _, _, h5⟩ := ok2
      rw [h2] at h3; cases h3
      exact h5 m) o4
    exact h2.run H4 F4 w w3 f2 f3 u Q E4.sub (ok2'.rd E4 e7) (ok4.rd E4 e8) e9 (Res.of E4 (KE.after x4 o4 kk))
section
variable {X : Cx} {a b c : Expr} {fa fb fc : SE} {pos : Pos} {op op' : CmpOp} {r r' : R2} {g g' : PyData → PyData → Option Rs}
theorem dChn (ho : OpR X (compareOp op) r) (h1 : Op2 r g) (ho' : OpR X (compareOp op') r') (h2 : Op2 r' g') (ha : PE X a (tE fa)) (hb : PE X b (tE fb)) (hc : PE X c (tE fc)) (hm : lastMarks [op, op'] [b, c] = false := by with_unfolding_all rfl) :
    PE X (.Compare a [op, op'] [b, c] pos) (tE (eChn g g' fa fb fc)) := PE.imp (pe_chain ho ho' ha hb hc hm) fun _ _ _ q => chn_imp h1 h2 q
theorem dChnT (ho : OpR X (compareOp op) r) (h1 : Op2 r g) (ho' : OpR X (compareOp op') r') (h2 : Op2 r' g') (ha : PE X a (tE fa)) (hb : PE X b (tE fb)) (hc : PE X c (tE fc)) (hm : lastMarks [op, op'] [b, c] = false := by with_unfolding_all rfl) :
    PT X (.Compare a [op, op'] [b, c] pos) (tT (ofE (eChn g g' fa fb fc))) := PT.imp (pt_chain ho ho' ha hb hc hm) (test_imp fun _ _ _ q => chn_imp h1 h2 q)
end
end Dn

set_option Elab.async false
set_option linter.all false
set_option maxRecDepth 100000
set_option maxHeartbeats 4000000
/-! Dn14: the drawn source read and written; comprehensions that use up what a name owns. -/
namespace Dn
open PySem PySem.Spec PyProof.Rows L2

/-! ### the source -/
inductive Fd where
  | left | mixed | turn
def Fd.nm : Fd → Str
  | .left => "left"
  | .mixed => "mixed"
  | .turn => "turn"
def Fd.get (S : Src) : Fd → Int
  | .left => S.left
  | .mixed => S.mixed
  | .turn => S.turn
def Fd.put (S : Src) (i : Int) : Fd → Src
  | .left => { S with left := i }
  | .mixed => { S with mixed := i }
  | .turn => { S with turn := i }
abbrev srcK (c : Addr) (S : Src) : List (Key × V) := [(.inr "cells", .ref c), (.inr "left", .int S.left), (.inr "mixed", .int S.mixed), (.inr "turn", .int S.turn)]
theorem src_get (c : Addr) (S : Src) (f : Fd) : valV (srcK c S) (.inr f.nm) = some (.int (f.get S)) := by
  cases f <;> rfl
theorem src_cells (c : Addr) (S : Src) : valV (srcK c S) (.inr "cells") = some (.ref c) := rfl
theorem src_put (c : Addr) (S : Src) (f : Fd) (i : Int) : putK (srcK c S) (.inr f.nm) (.int i) = srcK c (f.put S i) := by
  cases f <;> rfl
section
variable {B : Bs} {σ : St} {H F : Hp} {ρ : Rho} {S : Src}
/-- the source is written -/
theorem DEnv.srcW (E : DEnv B σ H F ρ S) {H' : Hp} {S' : Src} (h : SrcAt H' B.a0 B.c0 S') (e : ∀ b, b ≠ B.a0 → b ≠ B.c0 → H' b = H b) : DEnv B σ H' F ρ S' ∧ Ext (DOwn B σ ρ) F H F H' := by
  have nF : ∀ b o, F b = some o → H' b = some o := fun b o z => by
    rw [e b (fun w => by rw [w, E.fa] at z; cases z) (fun w => by rw [w, E.fc] at z; cases z)]
    exact E.sub b o z
  refine ⟨⟨nF, h, E.fa, E.fc, fun b o z n1 n2 => by rw [e b n1 n2]; exact E.keep b o z n1 n2, E.mono, E.new, E.len, fun i s z => ?_, E.uni⟩, fun b o z n => ?_, Sub.refl _, fun b z => .inl z, fun b z => ?_⟩
  · have w := E.sl i s z
    cases s with
    | un => trivial
    | im d => exact w
    | ow d => obtain ⟨a, h1, h2, h3, h4, h5, h6⟩ := w; exact ⟨a, h1, h2.mono (fun o q => by rw [e a h5 h6]; exact q) (Sub.refl _), h3, h4, h5, h6⟩
    | ro d => obtain ⟨a, h1, h2, h5, h6⟩ := w; exact ⟨a, h1, h2.mono (fun o q => by rw [e a h5 h6]; exact q) (Sub.refl _), h5, h6⟩
    | so => exact w
  · rw [e b (fun w => n (.inl w)) (fun w => n (.inr (.inl w)))]; exact z
  · by_cases h1 : b = B.a0
    · rw [h1, h.1] at z; cases z
    · by_cases h2 : b = B.c0
      · rw [h2, h.2.1] at z; cases z
      · rw [e b h1 h2] at z; exact z
end
def eSg (i : Nat) (f : Fd) : SE := fun ρ S => match ρ[i]? with
  | some .so => some (.im (.int (f.get S)), ρ, S)
  | _ => none
def eSlen (i : Nat) : SE := fun ρ S => match ρ[i]? with
  | some .so => some (.im (.int S.cells.length), ρ, S)
  | _ => none
def eSpop (i : Nat) : SE := fun ρ S => match ρ[i]? with
  | some .so => match S.cells.getLast? with
    | some c => some (.im (.int c), ρ, { S with cells := S.cells.dropLast })
    | none => none
  | _ => none
def sSput (i : Nat) (f : Fd) (e : SE) : SS := fun ρ S => do
  let (r, ρ1, S1) ← e ρ S
  match r with
  | .im (.int n) => match ρ1[i]? with
    | some .so => some (.nx, ρ1, f.put S1 n)
    | _ => none
  | _ => none
theorem so_at {B : Bs} {σ : St} {H F : Hp} {ρ : Rho} {S : Src} (E : DEnv B σ H F ρ S) {i : Nat} (h : ρ[i]? = some .so) : σ[i]? = some (some (.ref B.a0)) := E.sl i _ h
section
variable {X : Cx} {o e : Expr} {i : Nat} {pos pos' kp apos cpos p : Pos} {j : Nat} {f : SE}
/-- source['left'] .. -/
theorem dSg (fd : Fd) (hu : X.A.units + 1 < cLine) (ho : PE X o (tVar i)) (hs : NoSl (.Constant (.str fd.nm) j kp) := by first | exact fun _ _ => rfl | (intro _; rfl) | trivial) : PE X (.Subscript o (.Constant (.str fd.nm) j kp) pos) (tE (eSg i fd)) := by
  refine PE.imp (pe_dget hu ho pe_str hs) ?_
  rintro σ H Q ⟨B, F, ρ, S, r, ρ', S', E, e, k⟩
  unfold eSg at e
  cases z : ρ[i]? with
  | none => rw [z] at e; cases e
  | some t =>
    rw [z] at e
    cases t with
    | so =>
      cases e
      exact ⟨_, so_at E z, _, _, rfl, .inl ⟨_, .inr fd.nm, .inl E.src.1, rfl, (src_get _ _ fd).symm⟩, KE.val E (fun _ z => z) k (.int _) fun d h => by cases h⟩
    | _ => cases e
/-- len(source['cells']) -/
theorem dSlen (hu : X.A.units + 1 < cLine) (hg : Gl X "len") (hm : X.mg "len" = none) (ho : PE X o (tVar i)) (hs : NoSl (.Constant (.str "cells") j kp) := by first | exact fun _ _ => rfl | (intro _; rfl) | trivial)
    (he : starEach [.Subscript o (.Constant (.str "cells") j kp) pos'] X.env = (false, eval (.Subscript o (.Constant (.str "cells") j kp) pos') X.env) :: starEach [] X.env := by rfl) :
    PE X (.Call (.Name "len" p) [.Subscript o (.Constant (.str "cells") j kp) pos'] [] pos) (tE (eSlen i)) := by
  refine PE.imp (pe_callB call_len_seq hg hm PySem.boot_len (pa_cons (pe_dget hu ho pe_str hs) pa_nil he) (he := he)) ?_
  rintro σ H Q ⟨B, F, ρ, S, r, ρ', S', E, e, k⟩
  unfold eSlen at e
  cases z : ρ[i]? with
  | none => rw [z] at e; cases e
  | some t =>
    rw [z] at e
    cases t with
    | so =>
      cases e
      refine ⟨_, so_at E z, _, _, rfl, .inl ⟨_, .inr "cells", .inl E.src.1, rfl, (src_cells _ _).symm⟩, B.c0, _, rfl, .inl (SqL.of E.src.2.1), ?_⟩
      rw [List.length_map]
      exact KE.val E (fun _ z => z) k (.int _) fun d h => by cases h
    | _ => cases e
/-- source['cells'].pop() -/
theorem dSpop (hu : X.A.units + 1 < cLine) (ho : PE X o (tVar i)) (hs : NoSl (.Constant (.str "cells") j kp) := by first | exact fun _ _ => rfl | (intro _; rfl) | trivial)
    (hb : attributeBase (.Subscript o (.Constant (.str "cells") j kp) pos') ("pop" : Str) X.env (eval (.Subscript o (.Constant (.str "cells") j kp) pos') X.env) = eval (.Subscript o (.Constant (.str "cells") j kp) pos') X.env := by rfl)
    (hline : (apos.endLine == cpos.line) = true := by rfl) : PE X (.Call (.Attribute (.Subscript o (.Constant (.str "cells") j kp) pos') "pop" apos) [] [] cpos) (tE (eSpop i)) := by
  refine PE.imp (pe_bm0 PySem.F.plainAttrs_list PySem.F.slot_list_pop PySem.F.type_list_pop mt_pop (pe_dget hu ho pe_str hs) hb hline) ?_
  rintro σ H Q ⟨B, F, ρ, S, r, ρ', S', E, e, k⟩
  unfold eSpop at e
  cases z : ρ[i]? with
  | none => rw [z] at e; cases e
  | some t =>
    rw [z] at e
    cases t with
    | so =>
      replace e : (match S.cells.getLast? with
        | some c => some (Vl.im (.int c), ρ, { S with cells := S.cells.dropLast })
        | none => none) = some (r, ρ', S') := e
      cases y : S.cells.getLast? with
      | none => rw [y] at e; cases e
      | some c =>
        rw [y] at e
        cases e
        have hl : (S.cells.map V.int)[(S.cells.map V.int).length - 1]? = some (.int c) := by
          rw [List.length_map, List.getElem?_map, ← List.getLast?_eq_getElem?, y]; rfl
        have ne := E.src.ne
        have w := E.srcW (H' := upd H B.c0 (.lst (S.cells.map V.int).dropLast)) (S' := { S with cells := S.cells.dropLast })
          ⟨by rw [upd_ne ne]; exact E.src.1, by rw [upd_same, ← List.map_dropLast], by have := E.src.2.2; rw [List.length_dropLast]; omega⟩ (fun b _ n2 => upd_ne n2)
        exact ⟨_, so_at E z, _, _, rfl, .inl ⟨_, .inr "cells", .inl E.src.1, rfl, (src_cells _ _).symm⟩, .inl ⟨rfl, _, SqL.of E.src.2.1⟩, B.c0, _, .int c, rfl, rfl, E.src.2.1, hl,
          k (.int c) _ F w.1 w.2 (fun _ z => z) (.int c) fun d a h => by cases h⟩
    | _ => cases e
/-- source['left'] = e -/
theorem dSput (fd : Fd) (hu : X.A.units + 1 < cLine) (ho : PE X o (tVar i)) (hv : PE X e (tE f)) (hs : swapsWith e (some (.Subscript o (.Constant (.str fd.nm) j kp) pos')) pos.line X.env = pure false := by rfl) :
    PS X (.Assign [.Subscript o (.Constant (.str fd.nm) j kp) pos'] e pos) (tS (sSput i fd f)) := by
  refine PS.imp (ps_dput hu ho pe_str hv hs) ?_
  rintro D σ H ⟨B, F, ρ, S, fl, ρ', S', E, e, k⟩
  obtain ⟨⟨r, ρ1, S1⟩, e1, e⟩ := bind_some e
  match r, e1, e with
  | .im (.int n), e1, e =>
    refine ⟨B, F, ρ, S, _, ρ1, S1, E, e1, fun v H1 F1 E1 x1 _ ok _ => ?_⟩
    cases (show Rp F1 v (.int n) from ok)
    replace e : (match ρ1[i]? with
      | some .so => some (Fl.nx, ρ1, fd.put S1 n)
      | _ => none) = some (fl, ρ', S') := e
    cases z : ρ1[i]? with
    | none => rw [z] at e; cases e
    | some t =>
      rw [z] at e
      cases t with
      | so =>
        cases e
        have ne := E1.src.ne
        have w := E1.srcW (H' := upd H1 B.a0 (.dK (srcK B.c0 (fd.put S1 n)))) (S' := fd.put S1 n)
          ⟨by rw [upd_same], by rw [upd_ne (Ne.symm ne)]; cases fd <;> exact E1.src.2.1, by cases fd <;> exact E1.src.2.2⟩ (fun b n1 _ => upd_ne n1)
        refine ⟨_, so_at E1 z, B.a0, _, rfl, .inl ⟨_, .inr fd.nm, E1.src.1, rfl, (by rw [sizeLine_eq]; exact (by decide : (4 : Nat) < 16777216)), rfl⟩, ?_⟩
        rw [show putK _ (Sum.inr fd.nm) (V.int n) = srcK B.c0 (fd.put S1 n) from src_put _ _ _ _]
        exact k σ _ F1 w.1 x1.mono
      | _ => cases e
end

/-! ### a comprehension that uses up what names own -/
def wipR (ρ : Rho) : List Nat → Rho
  | [] => ρ
  | v :: vs => (wipR ρ vs).set v .un
theorem wipR_len (ρ : Rho) : ∀ vs, (wipR ρ vs).length = ρ.length
  | [] => rfl
  | v :: vs => by unfold wipR; rw [List.length_set, wipR_len ρ vs]
theorem wipR_at {ρ : Rho} {i : Nat} {s : Sl} : ∀ {vs : List Nat}, (wipR ρ vs)[i]? = some s → s = .un ∨ (i ∉ vs ∧ ρ[i]? = some s)
  | [], h => .inr ⟨by simp, h⟩
  | v :: vs, h => by
    unfold wipR at h
    rcases set_get h with ⟨_, q, _⟩ | ⟨hv, h⟩
    · exact .inl q
    · rcases wipR_at h with z | ⟨z, w⟩
      · exact .inl z
      · exact .inr ⟨by simp only [List.mem_cons, not_or]; exact ⟨fun e => hv e.symm, z⟩, w⟩
theorem wipR_no {ρ : Rho} : ∀ {vs : List Nat}, ∀ i ∈ vs, ∀ d, (wipR ρ vs)[i]? ≠ some (Sl.ow d) := fun {vs} i hi d e => by
  rcases wipR_at e with z | ⟨z, _⟩
  · cases z
  · exact z hi
def drpSl : Sl → Sl
  | .ow _ => .un
  | .ro _ => .un
  | s => s
section
variable {B : Bs} {σ : St} {H F : Hp} {ρ : Rho} {S : Src}
theorem DEnv.wip (E : DEnv B σ H F ρ S) (vs : List Nat) : DEnv B (wipe σ vs) H F (wipR ρ vs) S := by
  refine ⟨E.sub, E.src, E.fa, E.fc, E.keep, E.mono, E.new, by rw [wipe_length, wipR_len]; exact E.len, fun i s e => ?_, fun i j d s a hij h1 h2 hb h3 => ?_⟩
  · rcases wipR_at e with rfl | ⟨hi, ht⟩
    · trivial
    · rw [wipe_ne hi]
      exact E.sl i s ht
  · rcases wipR_at h1 with z | ⟨hi, w1⟩
    · cases z
    · rcases wipR_at h2 with z | ⟨hj, w2⟩
      · subst z; cases hb
      · rw [wipe_ne hi] at h3
        rw [wipe_ne hj]
        exact E.uni i j d s a hij w1 w2 hb h3
theorem own_wip {vs : List Nat} {σ2 : St} {b : Addr} (h : wipe σ2 vs = wipe σ vs) {ρ2 : Rho} (z : DOwn B (wipe σ vs) (wipR ρ2 vs) b) : DOwn B σ2 ρ2 b := by
  rcases z with z | z | ⟨i, d, z1, z2⟩
  · exact .inl z
  · exact .inr (.inl z)
  · rcases wipR_at z1 with w | ⟨hi, w⟩
    · cases w
    · rw [← h, wipe_ne hi] at z2
      exact .inr (.inr ⟨i, d, w, z2⟩)
end
def unRo : Sl → Sl
  | .ro _ => .un
  | s => s
theorem unRo_at {ρ : Rho} {i : Nat} {s : Sl} (h : (ρ.map unRo)[i]? = some s) : s = .un ∨ (ρ[i]? = some s ∧ ∀ d, s ≠ .ro d) := by
  rw [List.getElem?_map] at h
  cases q : ρ[i]? with
  | none => rw [q] at h; cases h
  | some t =>
    rw [q] at h
    cases h
    cases t with
    | ro d => exact .inl rfl
    | _ => exact .inr ⟨rfl, fun d z => by cases z⟩
theorem DEnv.unRo {B : Bs} {σ : St} {H F : Hp} {ρ : Rho} {S : Src} (E : DEnv B σ H F ρ S) : DEnv B σ H F (ρ.map Dn.unRo) S := by
  refine ⟨E.sub, E.src, E.fa, E.fc, E.keep, E.mono, E.new, by rw [List.length_map]; exact E.len, fun i s e => ?_, fun i j d s a hij h1 h2 hb h3 => ?_⟩
  · rcases unRo_at e with rfl | ⟨h, _⟩
    · trivial
    · exact E.sl i s h
  · rcases unRo_at h1 with z | ⟨w1, _⟩
    · cases z
    · rcases unRo_at h2 with z | ⟨w2, _⟩
      · subst z; cases hb
      · exact E.uni i j d s a hij w1 w2 hb h3
theorem own_unRo {B : Bs} {σ : St} {ρ : Rho} {b : Addr} (z : DOwn B σ (ρ.map Dn.unRo) b) : DOwn B σ ρ b := by
  rcases z with z | z | ⟨i, d, z1, z2⟩
  · exact .inl z
  · exact .inr (.inl z)
  · rcases unRo_at z1 with w | ⟨w, _⟩
    · cases w
    · exact .inr (.inr ⟨i, d, w, z2⟩)
def lcGoO (g : SG) (t : STt) (f : SE) (vs : List Nat) : List PyData → Rho → Src → Option (List PyData × Src)
  | [], _, S => some ([], S)
  | d :: ds, ρ, S => do
    let ρ1 ← g d ρ
    let (b, ρ2, S2) ← t ρ1 S
    if b then do
      let (r, ρ3, S3) ← f ρ2 S2
      let (s, ρ4) ← fz ρ3 r
      match s with
      | .im e => do
        let (es, S4) ← lcGoO g t f vs ds (wipR (ρ4.map unRo) vs) S3
        some (e :: es, S4)
      | _ => none
    else lcGoO g t f vs ds (wipR ρ2 vs) S2
def eLcO (it : SIt) (vs : List Nat) (g : SG) (t : STt) (f : SE) : SE := fun ρ S => do
  let (ds, ρ1, S1) ← it ρ S
  if ds.length ≤ sizeLine then do
    let (es, S2) ← lcGoO g t f vs ds (wipR ρ1 vs) S1
    some (.ow (.list es), ρ1.map drpSl, S2)
  else none
/-- the target owns nothing new -/
def GKp (g : SG) : Prop := ∀ d ρ ρ', g d ρ = some ρ' → ∀ (i : Nat) (e : PyData), ρ'[i]? = some (.ow e) → ρ[i]? = some (.ow e)
theorem gkp_nm {i : Nat} : GKp (gNm i) := fun d ρ ρ' e j e' q => by
  cases e
  rcases set_get q with ⟨_, z, _⟩ | ⟨_, z⟩
  · cases z
  · exact z
theorem lcO_imp {it : SIt} {l vs : List Nat} {g : SG} {t : STt} {f : SE} (hl : ∀ i ∈ l, i ∈ vs) (hg : GKp g) {σ : St} {H : Hp} {Q : VK} (q : tE (eLcO it vs g t f) σ H Q) : tLc (tIa it) (tG l g) (tT t) (tE f) vs σ H Q := by
  obtain ⟨B, F, ρ, S, r, ρ', S', E, e, k⟩ := q
  obtain ⟨⟨ds, ρ1, S1⟩, e1, e⟩ := bind_some e
  replace e : (if ds.length ≤ sizeLine then (do
    let (es, S2) ← lcGoO g t f vs ds (wipR ρ1 vs) S1
    some (Vl.ow (.list es), ρ1.map drpSl, S2)) else none) = some (r, ρ', S') := e
  by_cases hz : ds.length ≤ sizeLine
  case neg => rw [if_neg hz] at e; cases e
  rw [if_pos hz] at e
  obtain ⟨⟨es, S2⟩, e2, e⟩ := bind_some e
  cases e
  refine ⟨B, F, ρ, S, ds, _, S1, E, e1, fun J H1 F1 E1 x1 o1 w D hD => ?_⟩
  have M0 : ∀ b, DOwn B (wipe σ vs) (wipR ρ1 vs) b → DOwn B σ ρ1 b := fun b z => own_wip rfl z
  have nD1 : ¬ DOwn B σ ρ1 D := fun z => by obtain ⟨o, q⟩ := E1.live z; rw [hD] at q; cases q
  refine ⟨fun i m Hc => ∃ Fc ρc Sc acc as rest, m = ds.length - i ∧ i ≤ ds.length ∧ DEnv B (wipe σ vs) Hc Fc ρc Sc ∧ (∀ b, DOwn B (wipe σ vs) ρc b → DOwn B σ ρ1 b) ∧ Ext (DOwn B σ ρ1) F1 H1 Fc Hc ∧ Fc D = none ∧ Hc D = some (.lst acc) ∧ RpA Fc acc as ∧ acc.length ≤ i ∧
      (∀ i ∈ vs, ∀ d, ρc[i]? ≠ some (Sl.ow d)) ∧ lcGoO g t f vs (ds.drop i) ρc Sc = some (rest, S') ∧ es = as ++ rest,
    ⟨ds.length, F1, wipR ρ1 vs, S1, [], [], es, by simp, Nat.zero_le _, (E1.wip vs).laid hD, M0, ext_laid hD, E1.noF hD, upd_same, .nil, Nat.le_refl _, ?_, e2, by simp⟩, ?_⟩
  · exact wipR_no
  rintro i m Hc ⟨Fc, ρc, Sc, acc, as, rest, rfl, hi, Ec, oc, xc, nD, aD, rD, zD, wc, ec, hes⟩
  obtain ⟨w1, w2⟩ := w Fc Hc Ec.sub i
  by_cases hlt : i < ds.length
  case neg =>
    have e' : i = ds.length := by omega
    subst e'
    rw [List.drop_length] at ec
    cases ec
    rw [List.append_nil] at hes
    subst hes
    refine .inl ⟨w2 (Nat.le_refl _), ?_⟩
    have Eo : DEnv B σ Hc Fc (ρ1.map drpSl) S' := by
      refine ⟨Ec.sub, Ec.src, Ec.fa, Ec.fc, Ec.keep, Ec.mono, Ec.new, by rw [List.length_map]; exact E1.len, fun j s z => ?_, fun i j d s a _ z => ?_⟩
      · rw [List.getElem?_map] at z
        cases y : ρ1[j]? with
        | none => rw [y] at z; cases z
        | some t0 =>
          rw [y] at z
          cases z
          have sl := E1.sl j _ y
          cases t0 with
          | im d => obtain ⟨v, h1, h2⟩ := sl; exact ⟨v, h1, h2.mono xc.mono⟩
          | so => exact sl
          | _ => trivial
      · rw [List.getElem?_map] at z
        cases y : ρ1[i]? with
        | none => rw [y] at z; cases z
        | some t0 => rw [y] at z; cases t0 <;> cases z
    have od : ∀ b, DOwn B σ (ρ1.map drpSl) b → DOwn B σ ρ1 b := by
      rintro b (z | z | ⟨j, d, z1, z2⟩)
      · exact .inl z
      · exact .inr (.inl z)
      · rw [List.getElem?_map] at z1
        cases y : ρ1[j]? with
        | none => rw [y] at z1; cases z1
        | some t0 => rw [y] at z1; cases t0 <;> cases z1
    refine k (.ref D) Hc Fc Eo (x1.trans xc fun b z => .inl (o1 b z)) (fun b z => o1 b (od b z)) ⟨D, rfl, ⟨acc, aD, by omega, rD⟩, nD, E1.n0 hD, fun z => nD1 (od D z)⟩ fun d a _ h => by cases h; exact x1.live D hD
  have hd : ds[i]? = some ds[i] := List.getElem?_eq_getElem hlt
  obtain ⟨go, yl⟩ := w1 _ hd
  rw [List.drop_eq_getElem_cons hlt] at ec
  obtain ⟨ρ3, e3, ec⟩ := bind_some ec
  obtain ⟨⟨b, ρ4, S4⟩, e4, ec⟩ := bind_some ec
  refine .inr ⟨go, fun Hc => ∃ Fc ρc Sc acc as rest, i + 1 ≤ ds.length ∧ DEnv B (wipe σ vs) Hc Fc ρc Sc ∧ (∀ b, DOwn B (wipe σ vs) ρc b → DOwn B σ ρ1 b) ∧ Ext (DOwn B σ ρ1) F1 H1 Fc Hc ∧ Fc D = none ∧ Hc D = some (.lst acc) ∧ RpA Fc acc as ∧ acc.length ≤ i + 1 ∧
      (∀ i ∈ vs, ∀ d, ρc[i]? ≠ some (Sl.ow d)) ∧ lcGoO g t f vs (ds.drop (i + 1)) ρc Sc = some (rest, S') ∧ es = as ++ rest,
    fun H' ⟨F', ρ', S', acc', as', rest', q⟩ => ⟨ds.length - (i + 1), by omega, F', ρ', S', acc', as', rest', rfl, q⟩, fun x Hx yx => ?_⟩
  obtain ⟨F2, E2, r2, x2⟩ := yl_env Ec (yl x Hx yx) xc.mono
  have x2' : Ext (DOwn B σ ρ1) Fc Hc F2 Hx := x2.weak fun _ z => z.elim
  refine ⟨B, F2, ρc, Sc, ds[i], ρ3, E2, r2, e3, fun σ2 E3 ag => ?_⟩
  have hw := agr_wipe ag hl
  refine ⟨hw, ?_⟩
  have m3 : ∀ b, DOwn B σ2 ρ3 b → DOwn B σ ρ1 b := by
    rintro b (z | z | ⟨j, d, z1, z2⟩)
    · exact .inl z
    · exact .inr (.inl z)
    · have y := hg _ _ _ e3 j d z1
      have nj : j ∉ vs := fun z => wc j z d y
      rw [ag.2 j fun z => nj (hl j z)] at z2
      exact oc b (.inr (.inr ⟨j, d, y, z2⟩))
  refine ⟨B, F2, ρ3, Sc, b, ρ4, S4, E3, e4, fun H4 F4 E4 x4 o4 => ?_⟩
  have x4' : Ext (DOwn B σ ρ1) F2 Hx F4 H4 := x4.weak m3
  have run : ∀ {F H F1 H1 F2 H2 : Hp}, Ext (DOwn B σ ρ1) F H F1 H1 → Ext (DOwn B σ ρ1) F1 H1 F2 H2 → Ext (DOwn B σ ρ1) F H F2 H2 := fun x y => x.trans y fun _ z => .inl z
  have hold : ∀ {F' H' : Hp}, Ext (DOwn B σ ρ1) Fc Hc F' H' → H' D = some (.lst acc) ∧ F' D = none := fun {F' H'} x => by
    refine ⟨x.keep D _ aD nD1, ?_⟩
    cases q : F' D with
    | none => rfl
    | some o =>
      rcases x.new D (by rw [q]; simp) with z | z | z
      · exact absurd nD z
      · exact absurd z nD1
      · rw [aD] at z; cases z
  have x24 := run x2' x4'
  cases b with
  | false =>
    refine iteF ?_
    replace ec : lcGoO g t f vs (ds.drop (i + 1)) (wipR ρ4 vs) S4 = some (rest, S') := ec
    obtain ⟨h1, h2⟩ := hold x24
    have E5 := E4.wip vs
    rw [hw] at E5
    exact ⟨F4, wipR ρ4 vs, S4, acc, as, rest, hlt, E5, fun b z => m3 b (o4 b (own_wip hw z)), run xc x24, h2, h1, rD.mono x24.mono, by omega, wipR_no, ec, hes⟩
  | true =>
    refine iteT ?_
    obtain ⟨⟨r, ρ5, S5⟩, e5, ec⟩ := bind_some (show (f ρ4 S4 >>= fun _ => _) = some (rest, S') from ec)
    obtain ⟨⟨s, ρ6⟩, e6, ec⟩ := bind_some ec
    refine ⟨B, F4, ρ4, S4, r, ρ5, S5, E4, e5, fun y H5 F5 E5 x5 o5 ok5 fr5 => ?_⟩
    have m4 : ∀ b, DOwn B σ2 ρ4 b → DOwn B σ ρ1 b := fun b z => m3 b (o4 b z)
    have x25 := run x24 (x5.weak m4)
    obtain ⟨F6, a6, E6, x6, o6⟩ := fz_ok E5 ok5 e6
    have x26 : Ext (DOwn B σ ρ1) Fc Hc F6 H5 := x25.trans x6 fun b z => by
      rcases z with ⟨d, h1, h2⟩ | z
      · exact .inr (x24.live b (fr5 d b h1 h2))
      · exact .inl (m4 b (o5 b z))
    obtain ⟨h1, h2⟩ := hold x26
    cases s with
    | im e =>
      obtain ⟨⟨es', S7⟩, e7, ec⟩ := bind_some ec
      cases ec
      refine ⟨acc, h1, by omega, ?_⟩
      have E6 := E6.unRo
      have x16 := run xc x26
      -- the list is nobody's
      have nO6 : ¬ DOwn B σ2 (ρ6.map unRo) D := fun z => nD1 (m4 D (o5 D (o6 D (own_unRo z))))
      have hyp : ∀ b o, b ≠ D → H5 b = some o → upd H5 D (.lst (acc ++ [y])) b = some o := fun b o hb q => by rw [upd_ne hb]; exact q
      have E7 : DEnv B σ2 (upd H5 D (.lst (acc ++ [y]))) F6 (ρ6.map unRo) S5 := by
        refine ⟨fun b o q => hyp b o (ne_of_none q h2) (E6.sub b o q), ⟨hyp _ _ (fun z => nD1 (.inl z.symm)) E6.src.1, hyp _ _ (fun z => nD1 (.inr (.inl z.symm))) E6.src.2.1, E6.src.2.2⟩, E6.fa, E6.fc,
          fun b o q n1 n2 => hyp b o (ne_of_none q (E1.n0 hD)) (E6.keep b o q n1 n2), E6.mono, E6.new, E6.len, fun j s q => ?_, E6.uni⟩
        have now := E6.sl j s q
        cases s with
        | un => trivial
        | im d => exact now
        | so => exact now
        | ow d =>
          obtain ⟨a, u1, u2, u3⟩ := now
          have na : a ≠ D := fun z => nO6 (.inr (.inr ⟨j, d, q, by rw [← z]; exact u1⟩))
          exact ⟨a, u1, u2.mono (fun o q => hyp a o na q) (Sub.refl _), u3⟩
        | ro d =>
          rcases unRo_at q with z | ⟨_, z⟩
          · cases z
          · exact absurd rfl (z d)
      have E8 := E7.wip vs
      rw [hw] at E8
      refine ⟨F6, wipR (ρ6.map unRo) vs, S5, acc ++ [y], as ++ [e], es', hlt, E8, fun b z => m4 b (o5 b (o6 b (own_unRo (own_wip hw z)))), ⟨fun b o q nb => ?_, x16.mono, x16.new, fun b q => ?_⟩, h2, upd_same, (rD.mono x26.mono).app (.cons a6 .nil), by rw [List.length_append]; simp; omega, wipR_no, e7, by rw [hes]; simp⟩
      · rw [upd_ne (ne_of_none q hD)]; exact x16.keep b o q nb
      · by_cases hb : b = D
        · subst hb; rw [upd_same] at q; cases q
        · rw [upd_ne hb] at q; exact x16.live b q
    | _ => cases ec
section
variable {X : Cx} {elt tg iter : Expr} {ifs : List Expr} {scope : Scope} {own : List (Str × Nat)} {it : SIt} {l vs : List Nat} {g : SG} {t : STt} {f : SE} {pos : Pos}
/-- [elt for tg in iter if ..], elt using up what names own -/
theorem dLcO (hc : X.calm = true) (hN : X.N.Nodup) (hi : PI X tg iter (tIa it)) (ok : BlkOk X.N X.env.scope scope own) (hv : own.map (·.2) = vs) (hl : ∀ i ∈ l, i ∈ vs) (hw : GKp g)
    (hg : ∀ (s : Shared) (H : Hp) (C : Addr) (cl : List (Str × Addr)) (fp : List Addr), PG (X.blk s H scope (compEnvC scope cl C X.env) fp) tg (tG l g)) (ht : ∀ (s : Shared) (H : Hp) (C : Addr) (cl : List (Str × Addr)) (fp : List Addr), PTs (X.blk s H scope (compEnvC scope cl C X.env) fp) ifs (tT t))
    (he : ∀ (s : Shared) (H : Hp) (C : Addr) (cl : List (Str × Addr)) (fp : List Addr), PE (X.blk s H scope (compEnvC scope cl C X.env) fp) elt (tE f)) (hs : ∀ x, foldedSetIterable iter X.env x = pure x := by intro _; rfl) :
    PE X (.ListComp elt [⟨tg, iter, ifs, 0⟩] scope pos) (tE (eLcO it vs g t f)) := by
  subst hv
  exact PE.imp (pe_lc hc hN hi ok hg ht he hs) fun _ _ _ q => lcO_imp hl hw q
end
end Dn

set_option Elab.async false
set_option linter.all false
set_option maxRecDepth 100000
set_option maxHeartbeats 4000000
/-! Dn15: the rules as they are written by gen.py. -/
namespace Dn
open PySem PySem.Spec PyProof.Rows L2

/-- a comparison over data -/
structure Cop (X : Cx) (op : CmpOp) (g : PyData → PyData → Option Rs) : Prop where
  ex : ∃ r, OpR X (compareOp op) r ∧ Op2 r g
section
variable {X : Cx} {k : Nat} {a b c : Expr} {fa fb fc : SE} {pos : Pos} {op op' : CmpOp} {g g' : PyData → PyData → Option Rs}
theorem oLt : Cop X .Lt gLt := ⟨_, op_lt, op2B0⟩
theorem oLe : Cop X .LtE gLe := ⟨_, op_le, op2B0⟩
theorem oGt : Cop X .Gt gGt := ⟨_, op_gt, op2B0⟩
theorem oGe : Cop X .GtE gGe := ⟨_, op_ge, op2B0⟩
theorem oEq (hr : Room k X.A) : Cop X .Eq gEq := ⟨_, op_eq.or (op_eqD hr.units), op2EqT.or op2Eq⟩
theorem oNe (hr : Room k X.A) : Cop X .NotEq gNe := ⟨_, op_ne.or (op_neD hr.units), op2NeT.or op2Ne⟩
theorem oIn (hr : Room k X.A) : Cop X .In (gInS false) := ⟨_, op_mem (room65 hr), op2Mem⟩
theorem oNi (hr : Room k X.A) : Cop X .NotIn (gInS true) := ⟨_, op_notMem (room65 hr), op2Mem⟩
theorem oIs : Cop X .Is (gIs false) := ⟨_, op_isG, op2Is⟩
theorem oIn' : Cop X .IsNot (gIs true) := ⟨_, op_isNotG, op2Is⟩
theorem dCm (o : Cop X op g) (ha : PE X a (tE fa)) (hb : PE X b (tE fb)) (hm : behindInMarks op b = false := by rfl) : PE X (.Compare a [op] [b] pos) (tE (eBin g fa fb)) := let ⟨_, h1, h2⟩ := o.ex; dCmp h1 h2 ha hb hm
theorem dCmT (o : Cop X op g) (ha : PE X a (tE fa)) (hb : PE X b (tE fb)) (hm : behindInMarks op b = false := by rfl) : PT X (.Compare a [op] [b] pos) (tT (ofE (eBin g fa fb))) := let ⟨_, h1, h2⟩ := o.ex; dCmpT h1 h2 ha hb hm
theorem dCh (o : Cop X op g) (o' : Cop X op' g') (ha : PE X a (tE fa)) (hb : PE X b (tE fb)) (hc : PE X c (tE fc)) (hm : lastMarks [op, op'] [b, c] = false := by with_unfolding_all rfl) : PE X (.Compare a [op, op'] [b, c] pos) (tE (eChn g g' fa fb fc)) :=
  let ⟨_, h1, h2⟩ := o.ex; let ⟨_, h3, h4⟩ := o'.ex; dChn h1 h2 h3 h4 ha hb hc hm
theorem dChT (o : Cop X op g) (o' : Cop X op' g') (ha : PE X a (tE fa)) (hb : PE X b (tE fb)) (hc : PE X c (tE fc)) (hm : lastMarks [op, op'] [b, c] = false := by with_unfolding_all rfl) : PT X (.Compare a [op, op'] [b, c] pos) (tT (ofE (eChn g g' fa fb fc))) :=
  let ⟨_, h1, h2⟩ := o.ex; let ⟨_, h3, h4⟩ := o'.ex; dChnT h1 h2 h3 h4 ha hb hc hm
end

/-! ### built-ins by name -/
/-- a built-in called -/
structure Bin (X : Cx) (x : Str) (g : List PyData → Option Rs) : Prop where
  ex : (∃ id r, bootBuiltins x = some (.builtin id) ∧ CallR X (.builtin id) r ∧ OpN r g) ∨ ∃ T r, bootBuiltins x = some (.type T) ∧ CallR X (.type T) r ∧ OpN r g
  n1 : x ≠ "__name__"
  n2 : (x == ("__debug__" : Str)) = false
section
variable {X : Cx} {k : Nat} {e : Expr} {es : List Expr} {a : SA} {x : Str} {p pos : Pos} {g : List PyData → Option Rs}
theorem dBn (b : Bin X x g) (hg : Gl X x) (hm : X.mg x = none) (ha : PA X (e :: es) (tA a)) (he : starEach (e :: es) X.env = (false, eval e X.env) :: starEach es X.env := by rfl) (hpl : (backTo pos (starEach es X.env)).any (·.1) = false := by rfl) :
    PE X (.Call (.Name x p) (e :: es) [] pos) (tE (eB g a)) := by
  rcases b.ex with ⟨id, r, h1, h2, h3⟩ | ⟨T, r, h1, h2, h3⟩
  · exact dB h2 h3 hg hm h1 ha b.n1 b.n2 he hpl
  · exact dBT h2 h3 hg hm h1 ha b.n1 b.n2 he hpl
theorem bLen : Bin X "len" (g1 gLen) := ⟨.inl ⟨_, _, PySem.boot_len, call_lenG, opLen⟩, by decide, by decide⟩
theorem bTuple : Bin X "tuple" (g1 gTuple) := ⟨.inr ⟨_, _, boot_tuple, call_tuple_of, opTuple⟩, by decide, by decide⟩
theorem bList : Bin X "list" (g1 gList) := ⟨.inr ⟨_, _, boot_list, call_list_of, opList⟩, by decide, by decide⟩
theorem bMaxL (hc : X.calm = true) : Bin X "max" (g1 gMaxL) := ⟨.inl ⟨_, _, boot_max, cr_max hc, opMaxL⟩, by decide, by decide⟩
theorem bMinL (hc : X.calm = true) : Bin X "min" (g1 gMinL) := ⟨.inl ⟨_, _, boot_min, cr_min hc, opMinL⟩, by decide, by decide⟩
theorem bSum (hc : X.calm = true) : Bin X "sum" (g1 gSum) := ⟨.inl ⟨_, _, boot_sum, cr_sum hc, opSum⟩, by decide, by decide⟩
theorem bAll (hc : X.calm = true) : Bin X "all" (g1 gAll) := ⟨.inl ⟨_, _, by decide +kernel, cr_all hc, opAll⟩, by decide, by decide⟩
theorem bAbs : Bin X "abs" (g1 gAbs) := ⟨.inl ⟨_, _, by decide +kernel, call_abs, opAbs⟩, by decide, by decide⟩
theorem bInt : Bin X "int" (g1 gInt) := ⟨.inr ⟨_, _, boot_int, call_int1, opInt⟩, by decide, by decide⟩
theorem bMax2 (hc : X.calm = true) : Bin X "max" (g2 gMax2) := ⟨.inl ⟨_, _, boot_max, call_max2 hc, opMax2⟩, by decide, by decide⟩
theorem bMin2 (hc : X.calm = true) : Bin X "min" (g2 gMin2) := ⟨.inl ⟨_, _, boot_min, call_min2 hc, opMin2⟩, by decide, by decide⟩
theorem bRepr (hG : X.A.guards = some []) (hr : Room k X.A) : Bin X "repr" gRepr := ⟨.inl ⟨_, _, by decide +kernel, call_reprD hG hr.units, opRepr⟩, by decide, by decide⟩
end

/-! ### defs by name -/
/-- the def x of the module, n parameters, means m -/
structure Cal (P : Program) (w : World) (K : PySem.W.Frag) (mg : Str → Option Value) (base : Heap) (k : Nat) (x : Str) (n : Nat) (m : FS) : Prop where
  ex : ∃ f fd ps, FnG P w K mg base k f fd ps (spD n m) ∧ mg x = some (.ref f) ∧ PySem.W.keepIn K (.ref f) = true ∧ Binds K fd ps []
/-- the def x as the top left it -/
structure Df (K : PySem.W.Frag) (mg : Str → Option Value) (x : Str) (st : Stmt) (ps : List Str) (f : Addr) (fd : FuncData) : Prop where
  fn : Fun K x x st f fd
  at' : mg x = some (.ref f)
  bnd : Binds K fd ps []
section
variable {P : Program} {w : World} {K : PySem.W.Frag} {mg : Str → Option Value} {base : Heap} {j k n : Nat} {x : Str} {m m' : FS}
theorem Cal.mono (C : Cal P w K mg base j x n m) (h : j ≤ k) : Cal P w K mg base k x n m := let ⟨f, fd, ps, h1, h2, h3, h4⟩ := C.ex; ⟨f, fd, ps, h1.mono h, h2, h3, h4⟩
theorem Cal.sem (C : Cal P w K mg base k x n m) (h : ∀ ss S r, ss.length = n → m' ss S = some r → m ss S = some r) : Cal P w K mg base k x n m' := let ⟨f, fd, ps, h1, h2, h3, h4⟩ := C.ex; ⟨f, fd, ps, h1.sem h, h2, h3, h4⟩
/-- a def from its body -/
theorem cal_of {st : Stmt} {N ps : List Str} {f : Addr} {fd : FuncData} {b : SS} (D : Df K mg x st ps f fd) (S : FnScope N ps (defScope st))
    (body : ∀ (cdv : Value) (A : Around) (outer : List Env) (s : Shared) (H : Hp) (E : XK), (A.deeper (envOfC x (defScope st) s.heap.objs.size f cdv)).guards = some [] → Room k (A.deeper (envOfC x (defScope st) s.heap.objs.size f cdv)) →
      PSs (cxOf CX0 P w K mg base N x (defScope st) f cdv A outer s H E).nox (defBody st) (tS b)) : Cal P w K mg base (k + 1) x ps.length (fnD N.length b) := by
  refine ⟨f, fd, ps, ?_, D.at', D.fn.kp, D.bnd⟩
  refine fnG D.fn S (fun vs H Q E h => h.1) fun cdv A outer s H vs Q E g room wish => ?_
  obtain ⟨hl, a0, c0, F0, S0, ss, d, S', s1, s2, s3, s4, aok, hm, q⟩ := wish
  refine ⟨tS b, body cdv A outer s H E (guards_deeper g _) room, ?_⟩
  obtain ⟨⟨fl, ρ', S1⟩, e1, hm⟩ := bind_some hm
  have hN : vs.length ≤ N.length := by
    have := congrArg List.length S.pre
    rw [List.length_take] at this
    omega
  refine ⟨_, F0, _, S0, fl, ρ', S1, DEnv.enter s1 s2 s3 s4 aok hN, e1, fun σ' H' F' E' x => ?_⟩
  have fin : ∀ v, Rp F' v d → S1 = S' → Q v H' := fun v r e => by
    subst e
    exact q v H' F' E'.sub E'.src E'.fa E'.fc x r (fun b o z n1 n2 => E'.keep b o z n1 n2) fun b z => E'.new b z
  cases fl with
  | nx => cases hm; exact fin .non .non rfl
  | rt d' => cases hm; exact fun v r => fin v r rfl
  | bk => cases hm
  | ct => cases hm
end
section
variable {X : Cx} {k n : Nat} {x : Str} {m : FS} {p pos : Pos} {e : Expr} {es : List Expr} {g : SA}
theorem dCal (C : Cal X.prog X.w X.K X.mg X.base k x n m) (hG : X.A.guards = some []) (hr : Room k X.A) (hg : Gl X x) (ha : PA X (e :: es) (tA g)) (hdb : (x == ("__debug__" : Str)) = false := by decide)
    (he : starEach (e :: es) X.env = (false, eval e X.env) :: starEach es X.env := by rfl) (hpl : (backTo pos (starEach es X.env)).any (·.1) = false := by rfl) : PE X (.Call (.Name x p) (e :: es) [] pos) (tE (eCall n m g)) :=
  let ⟨_, _, _, h1, h2, h3, h4⟩ := C.ex; dCall h1 hG hr hg h2 h3 h4 ha hdb he hpl
end

/-! ### a, b = x, y where a name is a cell -/
def gNms : List Nat → TGs
  | [] => gNil
  | i :: is => gCons (gName i) (gNms is)
theorem gNms_of {H : Hp} {Q : St → Hp → Prop} : ∀ {is : List Nat} {vs : List V} {σ : St}, vs.length = is.length → Q (setVs σ is vs) H → gNms is vs σ H Q
  | [], [], σ, _, q => ⟨rfl, q⟩
  | i :: is, v :: vs, σ, h, q => ⟨v, vs, rfl, gNms_of (is := is) (by simpa using h) q⟩
  | [], _ :: _, _, h, _ => by cases h
  | _ :: _, [], _, h, _ => by cases h
theorem parT_imp {K : PySem.W.Frag} {is : List Nat} {g : SA} {D : Ends} {σ : St} {H : Hp} (h16 : is.length ≤ 16) (q : tS (sPar is g) D σ H) : tAsg (tTup (tA g)) (gTup K is.length (gNms is)) D σ H := by
  obtain ⟨B, F, ρ, S, fl, ρ', S', E, e, k⟩ := q
  obtain ⟨⟨rs, ρ1, S1⟩, e1, e⟩ := bind_some e
  obtain ⟨ρ2, e2, e⟩ := bind_some e
  cases e
  refine ⟨B, F, ρ, S, rs, ρ1, _, E, e1, fun vs H1 F1 E1 x1 _ ok _ => ?_⟩
  obtain ⟨F2, E2, hl, s2⟩ := parSt_ok E1 ok e2
  refine ⟨by rw [sizeLine_eq]; omega, fun p hp => ⟨p, vs, rfl, SqT.of upd_same, hl, gNms_of hl ?_⟩⟩
  exact k _ _ F2 (E2.laid hp) (x1.mono.trans s2)
theorem dParC {X : Cx} {es vs : List Expr} {is : List Nat} {g : SA} {k k2 : Nat} {pt pt2 pos : Pos} (hc : X.calm = true) (hg : PGs X es (gNms is)) (ha : PA X vs (tA g)) (h16 : is.length ≤ 16 := by decide)
    (hn : (assignEach es X.env).length = is.length := by rfl) (hst : (assignEach es X.env).findIdx? (·.1) = none := by rfl)
    (hs : swapsWithSole [.Tuple es k pt] (.Tuple vs k2 pt2) pos.line X.env = pure false := by rfl) (hw : swappedStores [.Tuple es k pt] (.Tuple vs k2 pt2) X.env = pure none := by rfl)
    (h1 : (assignEach [.Tuple es k pt] X.env).map (·.2) = [assign (.Tuple es k pt) X.env] := by rfl) : PS X (.Assign [.Tuple es k pt] (.Tuple vs k2 pt2) pos) (tS (sPar is g)) :=
  PS.imp (ps_asg (pe_tup ha) (pg_tup hc hg hn hst) hs hw h1) fun _ _ _ q => parT_imp h16 q
end Dn

set_option Elab.async false
set_option linter.all false
set_option maxRecDepth 100000
set_option maxHeartbeats 4000000
/-! Dn16: sorted of any alike data, empty tuples among them. -/
namespace Dn
open PySem PySem.Spec PySem.SeqAt PySem.W PyProof.Rows L2
section
variable {prog : Program} {w : World} {A : Around} {E : Value → Shared → Prop} {s : Shared}
/-- a tuple's own __lt__ -/
theorem tup_lt {Q : Value → Shared → Prop} {l b : Addr} {items items2 : Array Value} {e r : Nat → Bool} (hl : s.heap.IsTuple l items) (hb : s.heap.IsTuple b items2)
    (he : ∀ j (h1 : j < items.size) (h2 : j < items2.size), EqAt A.in1 s items[j] items2[j] (e j)) (hr : ∀ j (h1 : j < items.size) (h2 : j < items2.size), e j = false → Ob.RcOp .Lt A.in1 s items[j] items2[j] (r j))
    (h : Q (.bool (Ob.lexAt e r (decide (items.size < items2.size)) 0 (min items.size items2.size))) s) : wpAny (model prog w) A (call (.builtin "tuple.__lt__") [.ref l, .ref b]) Q E s := by
  obtain ⟨⟨c, dd, dt, sl⟩, ho, hc, n, hd⟩ := id hl
  obtain ⟨⟨c2, dd2, dt2, sl2⟩, ho2, hc2, n2, hd2⟩ := id hb
  simp only at hc hd hc2 hd2
  subst hc hd hc2 hd2
  exact call_meets F.slot_tuple_lt ⟨_, ho, rfl⟩ F.entry_tuple_lt (F.args_tuple_lt_2 _ _) (Ob.tuple_ltAt l b items items2 n n2 dd dd2 sl sl2 e r) ⟨ho, ho2, he, hr, h⟩
theorem lexAt_firstLt (e r : Nat → Bool) (z : Bool) : ∀ k i, Ob.lexAt e r z i k = firstLt e r z ((List.range k).map (· + i))
  | 0, i => rfl
  | k + 1, i => by
    rw [Ob.lexAt_succ, lexAt_firstLt e r z k (i + 1), List.range_succ_eq_map, List.map_cons, List.map_map]
    have q : (fun x => x + i) ∘ Nat.succ = fun x => x + (i + 1) := by funext x; simp only [Function.comp]; omega
    rw [q]
    show _ = if e (0 + i) = true then firstLt e r z _ else r (0 + i)
    rw [Nat.zero_add]
/-- two tuples compared by the type's own __lt__ -/
theorem oneLt_tups {xs ys : List PyData} {a b : Value} {as bs : List Addr} {Q : Bool → Shared → Prop} (ra : Reads s.heap a (.tuple xs) as) (rb : Reads s.heap b (.tuple ys) bs) (h : alikeAll xs ys = true)
    (hu : A.units + min (PyData.tuple xs).depth (PyData.tuple ys).depth < cLine) (hq : Q (dataLt (.tuple xs) (.tuple ys)) s) : wpAny (model prog w) A (oneLt' true a b) Q E s := by
  cases ra with
  | @tuple l o vs n _ as₁ h1 h2 h3 h4 =>
    cases rb with
    | @tuple l' o' vs' n' _ bs₁ k1 k2 k3 k4 =>
      have n1 : vs.size = xs.length := by simpa using ReadsAll.length _ _ _ h4
      have n2 : vs'.size = ys.length := by simpa using ReadsAll.length _ _ _ k4
      rw [dataLt_tuple, ← firstLt_toks xs ys h, ← n1, ← n2] at hq
      rw [oneLt'_eq]
      simp only [if_true]
      refine wpAny_bind (wpAny_cRoomFor (room_here hu) ?_)
      refine wpAny_bind (wpAny_callSpecialIfBound?_slot (T := "tuple") ⟨_, h1, h2⟩ F.slot_tuple_lt (tup_lt (e := pairEq xs ys) (r := fun j => dataLt (xs.getD j .none) (ys.getD j .none)) ⟨_, h1, h2, _, h3⟩ ⟨_, k1, k2, _, k3⟩ (fun j j1 j2 => ?_) (fun j j1 j2 hj => ?_) ?_))
      · have := eqAt_alikeAll xs ys A.in1 s vs.toList vs'.toList _ _ h4 k4 h (SeqAt.room_in hu) j (by simpa using j1) (by simpa using j2)
        simpa using this
      · have := rcLt_alikeAll xs ys A.in1 s vs.toList vs'.toList _ _ h4 k4 h (SeqAt.room_in hu) j (by simpa using j1) (by simpa using j2) hj
        have z : vs[j] = vs.toList[j] := by simp
        have z' : vs'[j] = vs'.toList[j] := by simp
        rw [z, z']
        exact this
      · rw [lexAt_firstLt]
        simp only [Nat.add_zero, List.map_id']
        exact wpAny_truthy_bool hq
def nonE : PyData → Bool
  | .tuple [] => false
  | _ => true
/-- the first items of tuples -/
theorem firsts_any : ∀ {vs : List Value} {ds : List PyData} {Q : List (Option Value) → Shared → Prop}, EachIs (fun v d => ∃ as, Reads s.heap v d as) vs ds → (∀ d ∈ ds, ∃ xs, d = .tuple xs) →
    (∀ fs : List (Option Value), fs.map (·.isSome) = ds.map nonE → Q fs s) → wpAny (model prog w) A (vs.mapM firstOfTuple') Q E s
  | _, _, Q, .nil, _, h => by rw [List.mapM_nil]; exact wpAny_pure (h [] rfl)
  | v :: vs, d :: ds, Q, .cons ⟨as, r⟩ t, ht, h => by
    obtain ⟨xs, rfl⟩ := ht d (List.mem_cons_self ..)
    rw [List.mapM_cons]
    refine wpAny_bind ?_
    rw [kas_first_eq]
    cases r with
    | @tuple l o vs' n _ as₁ h1 h2 h3 h4 =>
      refine wpAny_bind (Looks.here (show Looks (model prog w) s.heap (typeOf (.ref l)) o.cls from (Looks.ld h1).andThen .now) ?_)
      rw [h2, if_neg (by first | decide | simp)]
      refine wpAny_bind (listItems_at h1 h3 (wpAny_pure ?_))
      have e : (vs'[0]?).isSome = nonE (.tuple xs) := by
        have n1 : vs'.size = xs.length := by simpa using ReadsAll.length _ _ _ h4
        cases xs with
        | nil =>
          have : vs'[0]? = none := by rw [Array.getElem?_eq_none_iff, n1]; exact Nat.le_refl _
          rw [this]
          rfl
        | cons x xs =>
          have h0 : 0 < vs'.size := by rw [n1]; exact Nat.succ_pos _
          rw [Array.getElem?_eq_getElem h0]
          rfl
      exact wpAny_bind (firsts_any (Q := fun bs s' => wpAny (model prog w) A (pure (vs'[0]? :: bs)) Q E s') t (fun d hd => ht d (List.mem_cons_of_mem _ hd)) fun fs hf => wpAny_pure (h _ (by rw [List.map_cons, List.map_cons, hf, e])))
/-- tuples, one of them empty: how they are compared -/
theorem kind_tups {vs : List Value} {ds : List PyData} {Q : SortKind → Shared → Prop} (e : EachIs (fun v d => ∃ as, Reads s.heap v d as) vs ds) (ht : ∀ d ∈ ds, ∃ xs, d = .tuple xs) (h0 : .tuple [] ∈ ds)
    (h : Q (if nonE (ds.headD .none) = true then general' else oneType') s) : wpAny (model prog w) A (keyKind' vs.toArray) Q E s := by
  rw [keyKind'_eq, List.mapM_toArray, map_eq_pure_bind]
  refine wpAny_bind (wpAny_bind (firsts_any e ht fun fs hf => wpAny_pure ?_))
  have na : ¬ (fs.toArray.all fun x => x.isSome) = true := by
    intro z
    rw [List.all_toArray, List.all_eq_true] at z
    have : nonE (PyData.tuple []) ∈ fs.map (·.isSome) := by rw [hf]; exact List.mem_map.mpr ⟨_, h0, rfl⟩
    obtain ⟨x, hx, q⟩ := List.mem_map.mp this
    have := z x hx
    rw [q] at this
    cases this
  rw [if_neg na]
  have hd0 : ((fs.toArray[0]?).bind id).isSome = nonE (ds.headD .none) := by
    cases fs with
    | nil =>
      cases ds with
      | nil => exact absurd h0 (by simp)
      | cons _ _ => cases hf
    | cons f fs =>
      cases ds with
      | nil => cases hf
      | cons d ds =>
        rw [List.map_cons, List.map_cons] at hf
        have := (List.cons.inj hf).1
        simpa using this
  by_cases c : nonE (ds.headD .none) = true
  · rw [if_pos (hd0.trans c)]
    rw [if_pos c] at h
    exact wpAny_pure h
  · rw [if_neg (by rw [hd0]; exact c)]
    rw [if_neg c] at h
    rw [oneTypeOnly'_eq, List.mapM_toArray, map_eq_pure_bind]
    refine wpAny_bind (wpAny_bind (wpAny_bind (kas_mapM (r := Value.type "tuple") _ (fun v hv Q' hq => ?_) (wpAny_pure ?_))))
    · obtain ⟨d, hd, as, r⟩ := e.left v hv
      obtain ⟨xs, rfl⟩ := ht d hd
      exact (looks_reads r).here hq
    · cases vs with
      | nil =>
        cases e
        exact absurd h0 (by simp)
      | cons v vs =>
        have hall : ((List.map (fun _ => Value.type "tuple") (v :: vs)).toArray.all fun x => x == Value.type "tuple") = true := by
          simp only [List.all_toArray, List.all_map, List.all_eq_true]
          intro _ _
          rfl
        have h0 : (List.map (fun _ => Value.type "tuple") (v :: vs)).toArray[0]? = some (Value.type "tuple") := by simp
        rw [h0]
        simp only [hall, if_true]
        exact wpAny_pure (wpAny_pure h)
end
/-- all are tuples, one is empty -/
def MixTups (ds : List PyData) : Prop := (∀ d ∈ ds, ∃ xs, d = .tuple xs) ∧ .tuple [] ∈ ds
section
variable {prog : Program} {w : World} {A : Around} {s : Shared}
theorem dataKind_lt {ds : List PyData} {kd : SortKind} (hal : AllAlike ds) (h : ∀ (E : Value → Shared → Prop) (d d' : PyData) (x y : Value) (as bs : List Addr) (Q : Bool → Shared → Prop), d ∈ ds → d' ∈ ds → Reads s.heap x d as → Reads s.heap y d' bs → Q (dataLt d d') s → wpAny (model prog w) A (keyLt' kd x y) Q E s) :
    H.LtAt prog w A s (dataKind s.heap ds) kd := by
  intro E x y a b Q ha hb hq
  obtain ⟨d, as, hd, ra, rfl⟩ := dataKind_inv ha
  obtain ⟨d', bs, hd', rb, rfl⟩ := dataKind_inv hb
  exact h E d d' x y as bs Q hd hd' ra rb hq
/-- alike data can be sorted, whatever -/
theorem sorts_any {vs : List Value} {ds : List PyData} (e : EachIs (fun v d => ∃ as, Reads s.heap v d as) vs ds) (hal : AllAlike ds) (hk : Sortable ds ∨ MixTups ds) (hu : ∀ d, d ∈ ds → A.units + d.depth < cLine) : SortsAt prog w A s (dataKind s.heap ds) vs := by
  rcases hk with hk | ⟨ht, h0⟩
  · exact SortsAt.data e hal hk hu
  · have room : ∀ {d d' : PyData}, d ∈ ds → A.units + min d.depth d'.depth < cLine := fun {d d'} hd => Nat.lt_of_le_of_lt (Nat.add_le_add_left (Nat.min_le_left _ _) _) (hu d hd)
    refine ⟨fun v hv => ?_, _, ?_, fun _ E Q hq => kind_tups e ht h0 hq⟩
    · obtain ⟨d, hd, as, r⟩ := e.left v hv
      exact ⟨_, dataKind_some hal hd r⟩
    · by_cases c : nonE (ds.headD .none) = true
      · rw [if_pos c]
        refine dataKind_lt hal fun E d d' x y as bs Q hd hd' ra rb hq => ?_
        obtain ⟨xs, rfl⟩ := ht d hd
        exact oneLt_alike (f := false) (fun z => by cases z) ra rb (hal _ hd _ hd') (by simp) (room hd) hq
      · rw [if_neg c]
        refine dataKind_lt hal fun E d d' x y as bs Q hd hd' ra rb hq => ?_
        obtain ⟨xs, rfl⟩ := ht d hd
        obtain ⟨ys, rfl⟩ := ht d' hd'
        rw [keyLt'_oneType]
        exact oneLt_tups ra rb (by simpa [alike] using hal _ hd _ hd') (room hd) hq
end
/-- in order -/
def leD : PyData → PyData → Bool := dataLe false id
theorem leD_eq : leD = fun a b => !dataLt b a := dataLe_eq false id
def alikeB (ds : List PyData) : Bool := ds.all fun d => ds.all fun e => alike d e
theorem alikeB_ok {ds : List PyData} (h : alikeB ds = true) : AllAlike ds := fun d hd e he => by
  unfold alikeB at h
  rw [List.all_eq_true] at h
  exact List.all_eq_true.mp (h d hd) e he
def isTup : PyData → Bool
  | .tuple _ => true
  | _ => false
def isNon : PyData → Bool
  | .none => true
  | _ => false
def sortB (ds : List PyData) : Bool := ds.all isTup || ds.all fun d => !isTup d && !isNon d
theorem isTup_ok {d : PyData} (h : isTup d = true) : ∃ xs, d = .tuple xs := by
  cases d with
  | tuple xs => exact ⟨xs, rfl⟩
  | _ => cases h
theorem sortB_ok {ds : List PyData} (h : sortB ds = true) : Sortable ds ∨ MixTups ds := by
  unfold sortB at h
  rw [Bool.or_eq_true] at h
  rcases h with h | h
  · rw [List.all_eq_true] at h
    by_cases c : PyData.tuple [] ∈ ds
    · exact .inr ⟨fun d hd => isTup_ok (h d hd), c⟩
    · refine .inl (.inl fun d hd => ?_)
      obtain ⟨xs, rfl⟩ := isTup_ok (h d hd)
      cases xs with
      | nil => exact absurd hd c
      | cons x r => exact ⟨x, r, rfl⟩
  · rw [List.all_eq_true] at h
    refine .inl (.inr fun d hd => ?_)
    have := h d hd
    constructor
    · rintro rfl; cases this
    · rintro xs rfl; cases this
def SortOk (ds : List PyData) : Prop := ds.length ≤ sizeLine ∧ alikeB ds = true ∧ sortB ds = true ∧ PyData.depthAll ds ≤ 30
instance (ds : List PyData) : Decidable (SortOk ds) := by unfold SortOk; infer_instance
def gSort : PyData → Option Rs
  | .list ds => if SortOk ds then some (.ow (.list (ds.mergeSort leD))) else none
  | _ => none
def rSort (K : PySem.W.Frag) : List V → Hp → VK → Prop := fun vs H Q => ∃ (a : Addr) (xs : List V) (ds : List PyData) (F : Hp), vs = [V.ref a] ∧ SqL K H a xs ∧ RpA F xs ds ∧ Sub F H ∧ SortOk ds ∧
  ∀ ys p, RpA F ys (ds.mergeSort leD) → ys.length ≤ sizeLine → H p = none → Q (.ref p) (upd H p (.lst ys))
mutual
theorem alike_noDict : ∀ (d : PyData), alike d d = true → d.hasDict = false
  | .none, _ => by simp only [PyData.hasDict]
  | .bool _, _ => by simp only [PyData.hasDict]
  | .int _, _ => by simp only [PyData.hasDict]
  | .str _, _ => by simp only [PyData.hasDict]
  | .list xs, h => by
    simp only [PyData.hasDict]
    exact alikeAll_noDict xs (by simpa only [alike] using h)
  | .tuple xs, h => by
    simp only [PyData.hasDict]
    exact alikeAll_noDict xs (by simpa only [alike] using h)
  | .dict _, h => by simp [alike] at h
theorem alikeAll_noDict : ∀ (d : List PyData), alikeAll d d = true → PyData.hasDictAll d = false
  | [], _ => by simp only [PyData.hasDictAll]
  | x :: xs, h => by
    obtain ⟨h1, h2⟩ := alike_all_cons h
    simp only [PyData.hasDictAll, alike_noDict x h1, alikeAll_noDict xs h2, Bool.or_false]
end
theorem depth_mem : ∀ {ds : List PyData} {d : PyData}, d ∈ ds → d.depth ≤ PyData.depthAll ds
  | x :: r, d, h => by
    simp only [PyData.depthAll]
    rcases List.mem_cons.mp h with rfl | h
    · exact Nat.le_max_left _ _
    · exact Nat.le_trans (depth_mem h) (Nat.le_max_right _ _)
theorem rp_each {F : Hp} : ∀ {xs : List V} {ds : List PyData} {us : List Value}, RpA F xs ds → Vals xs us → EachIs (fun v d => ∃ x, L2.RelV x v ∧ Rp F x d) us ds
  | _, _, _, .nil, .nil => .nil
  | _, _, _, .cons h r, .cons q t => .cons ⟨_, q, h⟩ (rp_each r t)
theorem each_rp {F : Hp} : ∀ {us : List Value} {ds : List PyData}, EachIs (fun v d => ∃ x, L2.RelV x v ∧ Rp F x d) us ds → ∃ xs, Vals xs us ∧ RpA F xs ds
  | _, _, .nil => ⟨[], .nil, .nil⟩
  | _, _, .cons ⟨x, q, h⟩ t => let ⟨xs, q', h'⟩ := each_rp t; ⟨x :: xs, .cons q q', .cons h h'⟩
theorem call_sortD {X : Cx} {k : Nat} (hr : Room k X.A) : CallR X (.builtin "sorted") (rSort X.K) := by
  intro pins s σ H vs us Q I r h
  obtain ⟨a, xs, ds, F, rfl, hs, ra, sF, ⟨c1, c2, c3, c4⟩, q⟩ := h
  obtain ⟨its, rv, hl, hz⟩ := I.list hs
  rw [Vals.ref1 r]
  have hal := alikeB_ok c2
  have er : EachIs (fun v d => ∃ as, Reads s.heap v d as) its ds := (each_mem (rp_each ra rv)).mono fun v d ⟨⟨x, r, rp⟩, hd⟩ => Dp.reads I d x v (rp.dpN sF (alike_noDict d (hal d hd d hd))) r
  have er' : EachIs (fun v d => ∃ as, Reads (sortingHeap (copyHeap s.heap its) (s.heap.objs.size + 1) its) v d as) its ds := er.mono fun _ _ ⟨as, r⟩ => ⟨as, PyProof.Rows.Reads.keeps (fun _ _ => sorting_copy_old) r⟩
  have hlen : its.length = ds.length := er.length
  refine sorted_vals hl.isList (κ := dataKind (sortingHeap (copyHeap s.heap its) (s.heap.objs.size + 1) its) ds) (sorts_any (s := { s with heap := sortingHeap (copyHeap s.heap its) (s.heap.objs.size + 1) its }) er' hal (sortB_ok c3) fun d hd => ?_) (by rw [hlen]; exact c1) ?_
  · have h1 := depth_mem hd
    have h2 := hr.units
    show X.A.units + 2 + d.depth < cLine
    omega
  · have eo := sortVals_data (β := PyData) (enc := id) (R := fun v d => ∃ x, L2.RelV x v ∧ Rp F x d) false (rp_each ra rv) (by exact er') (by rw [List.map_id]; exact hal)
    rw [List.map_id] at eo
    obtain ⟨ys, y1, y2⟩ := each_rp eo
    obtain ⟨ep, he'⟩ := PyProof.Rows.sortedAll_at s.heap its (sortVals (dataKind (sortingHeap (copyHeap s.heap its) (s.heap.objs.size + 1) its) ds) false its its).toArray
    have hyl : ys.length ≤ sizeLine := by rw [y2.len, List.length_mergeSort]; exact c1
    exact ⟨.ref _, upd H (s.heap.objs.size + 1) (.lst ys), I.laid (t' := s.toks) (fun _ _ => PyProof.Rows.sortedAll_old) (Nat.le_succ _) ⟨hyl, _, ep, y1, he'⟩, rfl, q _ _ y2 hyl (I.hok.fresh (Nat.le_succ _))⟩
theorem opSort {K : PySem.W.Frag} : OpN (rSort K) (g1 gSort) := opN1 fun H F v d o Q s hv h r => by
  cases d with
  | list ds =>
    replace h : (if SortOk ds then some (Rs.ow (.list (ds.mergeSort leD))) else none) = some o := h
    by_cases c : SortOk ds
    · rw [if_pos c] at h
      cases h
      obtain ⟨a, xs, rfl, h1, z, ra⟩ := hv.lst s
      exact ⟨a, xs, ds, F, rfl, SqL.of h1, ra, s, c, fun ys p y z hp => r.lst y z p hp⟩
    · rw [if_neg c] at h; cases h
  | _ => cases h
theorem bSort {X : Cx} {k : Nat} (hc : X.calm = true) (hr : Room k X.A) : Bin X "sorted" (g1 gSort) := ⟨.inl ⟨_, _, boot_sorted, call_sortD hr, opSort⟩, by decide, by decide⟩
end Dn

set_option Elab.async false
set_option linter.all false
set_option maxRecDepth 100000
set_option maxHeartbeats 4000000
/-! Dn17: the source is made: what is promised; the law's own head. -/
namespace Dn
open PySem PySem.Spec PyProof.Rows L2

def stepM (m cell : Int) : Int := (m * 69069 + cell * 31 + 5).fmod 2147483629
def absI (i : Int) : Int := if i < 0 then -i else i
/-- the source of a script -/
def srcOf (ns : List Int) : Src := ⟨(ns.map absI).reverse, 1, ns.foldl stepM 11, 0⟩
def spSrc (K : PySem.W.Frag) : Sp := fun vs H Q _ => ∃ (a : Addr) (ns : List Int), vs = [.ref a] ∧ SqL K H a (ns.map V.int) ∧ ns.length ≤ 63 ∧
  ∀ H' a0 c0, (∀ b o, H b = some o → H' b = some o) → H a0 = none → H c0 = none → SrcAt H' a0 c0 (srcOf ns) → Q (.ref a0) H'
theorem seq_keep {K : PySem.W.Frag} {H H' : Hp} {a : Addr} {xs : List V} (e : ∀ b o, H b = some o → H' b = some o) (h : SqL K H a xs) : SqL K H' a xs := by
  rcases h with (h | ⟨o, h⟩) | h
  · exact .inl (.inl (e _ _ h))
  · exact .inl (.inr ⟨o, e _ _ h⟩)
  · exact .inr h
theorem step_bd (m c : Int) : 0 ≤ stepM m c ∧ stepM m c < 2147483629 := by
  unfold stepM
  rw [Int.fmod_eq_emod_of_nonneg _ (by omega)]
  exact ⟨Int.emod_nonneg _ (by omega), Int.emod_lt_of_pos _ (by omega)⟩
theorem fold_bd : ∀ (ns : List Int) (m : Int), 0 ≤ m → m < 2147483629 → 0 ≤ ns.foldl stepM m ∧ ns.foldl stepM m < 2147483629
  | [], m, h1, h2 => ⟨h1, h2⟩
  | n :: ns, m, _, _ => fold_bd ns _ (step_bd m n).1 (step_bd m n).2
/-- the law's own promise -/
def spLaw (K : PySem.W.Frag) : Sp := fun vs H Q _ => ∃ (a : Addr) (ns : List Int), vs = [.ref a] ∧ SqL K H a (ns.map V.int) ∧ ns.length ≤ 63 ∧ ∀ H', Q (.bl true) H'
/-- what the rest of a law is to do, the source made -/
def LawOk (n : Nat) (i : Nat) (b : SS) : Prop := ∀ ns : List Int, ns.length ≤ 63 → ∃ ρ' S', b ((List.replicate n Sl.un).set i .so) (srcOf ns) = some (.rt (.bool true), ρ', S')
section
variable {P : Program} {w : World} {K : PySem.W.Frag} {mg : Str → Option Value} {base : Heap} {k : Nat} {f fS : Addr} {fd fdS : FuncData}
/-- source = _law_source(script); .. -/
theorem law_imp {b : SS} {N : Nat} {i : Nat} {D : Ends} {H : Hp} {vs : List V} {Q : VK} (ok : LawOk N i b) (hN : 1 < N) (hi : i < N) (h : spLaw K vs H Q fun _ _ _ => False) (hQ : D.rt = Q) :
    tSeq (tAsg (tCallG (spSrc K) (tCons (tVar 0) tNil)) (gName i)) (tS b) D (vs.map some ++ List.replicate (N - vs.length) none) H := by
  obtain ⟨a, ns, rfl, hS, hl, q⟩ := h
  refine ⟨.ref a, rfl, a, ns, rfl, hS, hl, fun H' a0 c0 keep n0 n1 src => ?_⟩
  obtain ⟨ρ', S', e⟩ := ok ns hl
  refine ⟨⟨H', fun _ => none, a0, c0⟩, fun _ => none, (List.replicate N Sl.un).set i .so, srcOf ns, .rt (.bool true), ρ', S', ?_, e, fun σ' H'' F' E' x => ?_⟩
  · refine ⟨(fun b o z => by cases z), src, rfl, rfl, (fun b o z _ _ => z), (fun b o z => by cases z), (fun b z => absurd rfl z), ?_, fun j s z => ?_, fun j l d s b _ z => ?_⟩
    · simp; omega
    · rcases set_get z with ⟨rfl, rfl, _⟩ | ⟨_, z⟩
      · show _ = some (some (V.ref a0))
        rw [List.getElem?_set_self (by simp; omega)]
      · rw [List.getElem?_replicate] at z
        split at z
        · cases z; trivial
        · cases z
    · rcases set_get z with ⟨_, z, _⟩ | ⟨_, z⟩
      · cases z
      · rw [List.getElem?_replicate] at z
        split at z
        · cases z
        · cases z
  · intro v rv
    cases rv
    rw [hQ]
    exact q H''
end

/-! ### what is never changed is frozen as it is named -/
def eFz (f : SE) : SE := fun ρ S => do
  let (r, ρ1, S1) ← f ρ S
  let (s, ρ2) ← fz ρ1 r
  match s with
  | .im d => some (.im d, ρ2, S1)
  | .so => some (.so, ρ2, S1)
  | _ => none
theorem fz_imp {f : SE} {σ : St} {H : Hp} {Q : VK} (q : tE (eFz f) σ H Q) : tE f σ H Q := by
  obtain ⟨B, F, ρ, S, r, ρ', S', E, e, k⟩ := q
  obtain ⟨⟨r1, ρ1, S1⟩, e1, e⟩ := bind_some e
  obtain ⟨⟨s, ρ2⟩, e2, e⟩ := bind_some e
  refine ⟨B, F, ρ, S, r1, ρ1, S1, E, e1, fun v H1 F1 E1 x1 o1 ok1 fr1 => ?_⟩
  obtain ⟨F2, a2, E2, x2, o2⟩ := fz_ok E1 ok1 e2
  have x : Ext (DOwn B σ ρ) F H F2 H1 := x1.trans x2 fun b z => by
    rcases z with ⟨d, h1, h2⟩ | z
    · exact .inr (fr1 d b h1 h2)
    · exact .inl (o1 b z)
  cases s with
  | im d => cases e; exact k v H1 F2 E2 x (fun b z => o1 b (o2 b z)) a2 fun d a h => by cases h
  | so => cases e; exact k v H1 F2 E2 x (fun b z => o1 b (o2 b z)) a2 fun d a h => by cases h
  | _ => cases e
section
variable {X : Cx} {e elt tg iter : Expr} {ifs : List Expr} {scope : Scope} {own : List (Str × Nat)} {it : SIt} {l vs : List Nat} {g : SG} {t : STt} {f : SE} {pos : Pos}
theorem dFz (h : PE X e (tE f)) : PE X e (tE (eFz f)) := PE.imp h fun _ _ _ q => fz_imp q
theorem dSetLcF {i : Nat} {y : Str} {py spos : Pos} (hc : X.calm = true) (hN : X.N.Nodup) (hy : X.N[i]? = some y) (hyl : X.env.scope.names.lookup y = some .local)
    (hsw : swapsWith (.ListComp elt [⟨tg, iter, ifs, 0⟩] scope pos) (some (.Name y py)) spos.line X.env = pure true) (hi : PI X tg iter (tIc it)) (ok : BlkOk X.N X.env.scope scope own) (hv : own.map (·.2) = vs) (hl : ∀ i ∈ l, i ∈ vs) (hw : GOw g)
    (hg : ∀ (s : Shared) (H : Hp) (C : Addr) (cl : List (Str × Addr)) (fp : List Addr), PG (X.blk s H scope (compEnvC scope cl C X.env) fp) tg (tG l g)) (ht : ∀ (s : Shared) (H : Hp) (C : Addr) (cl : List (Str × Addr)) (fp : List Addr), PTs (X.blk s H scope (compEnvC scope cl C X.env) fp) ifs (tT t))
    (he : ∀ (s : Shared) (H : Hp) (C : Addr) (cl : List (Str × Addr)) (fp : List Addr), PE (X.blk s H scope (compEnvC scope cl C X.env) fp) elt (tE f)) (hs : ∀ x, foldedSetIterable iter X.env x = pure x := by intro _; rfl) :
    PS X (.Assign [.Name y py] (.ListComp elt [⟨tg, iter, ifs, 0⟩] scope pos) spos) (tS (sSet i (eFz (eLc it vs g t f)))) := by
  subst hv
  refine PS.imp (ps_setLc hc hN hy hyl hsw hi ok hg ht he hs) fun D σ H q => ?_
  have z := set_imp q
  exact lc_imp hl hw (fz_imp z)
end
end Dn

set_option Elab.async false
set_option linter.all false
set_option maxRecDepth 100000
set_option maxHeartbeats 4000000
/-! Ev0: the meanings, applied (printed by mkev.py). -/
namespace Dn
open PySem PySem.Spec PyProof.Rows L2
@[simp] theorem bindS {α β : Type} (a : α) (f : α → Option β) : (some a >>= f) = f a := rfl
@[simp] theorem bindN {α β : Type} (f : α → Option β) : ((none : Option α) >>= f) = none := rfl
section
variable (ρ : Rho) (S : Src)
@[simp] theorem sNil_ap  : sNil  ρ S = some (.nx, ρ, S) := rfl
@[simp] theorem sSeq_ap (m n : SS) : sSeq m n ρ S = (m ρ S >>= fun z => match z with | (fl, ρ1, S1) => match fl with | .nx => n ρ1 S1 | fl => some (fl, ρ1, S1)) := rfl
@[simp] theorem sExpr_ap (f : SE) : sExpr f ρ S = (f ρ S >>= fun z => match z with | (_, ρ1, S1) => some (.nx, ρ1, S1)) := rfl
@[simp] theorem sSet_ap (i : Nat) (f : SE) : sSet i f ρ S = (f ρ S >>= fun z => match z with | (r, ρ1, S1) => stV ρ1 i r >>= fun ρ2 => some (.nx, ρ2, S1)) := rfl
@[simp] theorem sRet_ap (f : SE) : sRet f ρ S = (f ρ S >>= fun z => match z with | (r, ρ1, S1) => fz ρ1 r >>= fun y => match y with | (s, ρ2) => match s with | .im d => some (.rt d, ρ2, S1) | _ => none) := rfl
@[simp] theorem sRetN_ap  : sRetN  ρ S = some (.rt .none, ρ, S) := rfl
@[simp] theorem sIf_ap (t : STt) (m n : SS) : sIf t m n ρ S = (t ρ S >>= fun z => match z with | (c, ρ1, S1) => if c then m ρ1 S1 else n ρ1 S1) := rfl
@[simp] theorem sBrk_ap  : sBrk  ρ S = some (.bk, ρ, S) := rfl
@[simp] theorem sCnt_ap  : sCnt  ρ S = some (.ct, ρ, S) := rfl
@[simp] theorem sAsg_ap (g : SG) (f : SE) : sAsg g f ρ S = (f ρ S >>= fun z => match z with | (r, ρ1, S1) => fz ρ1 r >>= fun y => match y with | (s, ρ2) => match s with | .im d => g d ρ2 >>= fun ρ3 => some (.nx, ρ3, S1) | _ => none) := rfl
@[simp] theorem sPar_ap (l : List Nat) (g : SA) : sPar l g ρ S = (g ρ S >>= fun z => match z with | (rs, ρ1, S1) => parSt ρ1 l rs >>= fun ρ2 => some (.nx, ρ2, S1)) := rfl
@[simp] theorem sFor_ap (it : SIt) (g : SG) (b : SS) : sFor it g b ρ S = (it ρ S >>= fun z => match z with | (ds, ρ1, S1) => forGo g b ds ρ1 S1) := rfl
@[simp] theorem sWh_ap (t : STt) (b : SS) : sWh t b ρ S = whGo t b fuel ρ S := rfl
@[simp] theorem eVar_ap (i : Nat) : eVar i ρ S = match ρ[i]? with | some (.im d) => some (.im d, ρ, S) | some (.ow _) => some (.bo i, ρ, S) | some (.ro _) => some (.bo i, ρ, S) | some .so => some (.so, ρ, S) | _ => none := rfl
@[simp] theorem eC_ap (d : PyData) : eC d ρ S = some (.im d, ρ, S) := rfl
@[simp] theorem eBin_ap (g : PyData → PyData → Option Rs) (fa fb : SE) : eBin g fa fb ρ S = (fa ρ S >>= fun z => match z with | (r1, ρ1, S1) => fb ρ1 S1 >>= fun y => match y with | (r2, ρ2, S2) => datOf ρ2 r1 >>= fun d1 => datOf ρ2 r2 >>= fun d2 => g d1 d2 >>= fun r => some (r.vl, ρ2, S2)) := rfl
@[simp] theorem eUn_ap (g : PyData → Option Rs) (fa : SE) : eUn g fa ρ S = (fa ρ S >>= fun z => match z with | (r1, ρ1, S1) => datOf ρ1 r1 >>= fun d1 => g d1 >>= fun r => some (r.vl, ρ1, S1)) := rfl
@[simp] theorem ofE_ap (f : SE) : ofE f ρ S = (f ρ S >>= fun z => match z with | (r, ρ1, S1) => match r with | .im (.bool b) => some (b, ρ1, S1) | _ => none) := rfl
@[simp] theorem sNot_ap (t : STt) : sNot t ρ S = (t ρ S >>= fun z => match z with | (c, ρ1, S1) => some (!c, ρ1, S1)) := rfl
@[simp] theorem sAnd_ap (t u : STt) : sAnd t u ρ S = (t ρ S >>= fun z => match z with | (c, ρ1, S1) => if c then u ρ1 S1 else some (false, ρ1, S1)) := rfl
@[simp] theorem sOr_ap (t u : STt) : sOr t u ρ S = (t ρ S >>= fun z => match z with | (c, ρ1, S1) => if c then some (true, ρ1, S1) else u ρ1 S1) := rfl
@[simp] theorem eAnd_ap (fa fb : SE) : eAnd fa fb ρ S = (ofE fa ρ S >>= fun z => match z with | (c, ρ1, S1) => if c then fb ρ1 S1 else some (.im (.bool false), ρ1, S1)) := rfl
@[simp] theorem eOr_ap (fa fb : SE) : eOr fa fb ρ S = (ofE fa ρ S >>= fun z => match z with | (c, ρ1, S1) => if c then some (.im (.bool true), ρ1, S1) else fb ρ1 S1) := rfl
@[simp] theorem eNot_ap (fa : SE) : eNot fa ρ S = (ofE fa ρ S >>= fun z => match z with | (c, ρ1, S1) => some (.im (.bool (!c)), ρ1, S1)) := rfl
@[simp] theorem eIf_ap (t : STt) (fa fb : SE) : eIf t fa fb ρ S = (t ρ S >>= fun z => match z with | (c, ρ1, S1) => if c then fa ρ1 S1 else fb ρ1 S1) := rfl
@[simp] theorem aNil_ap  : aNil  ρ S = some ([], ρ, S) := rfl
@[simp] theorem aCons_ap (f : SE) (g : SA) : aCons f g ρ S = (f ρ S >>= fun z => match z with | (r, ρ1, S1) => g ρ1 S1 >>= fun y => match y with | (rs, ρ2, S2) => some (r :: rs, ρ2, S2)) := rfl
@[simp] theorem aStar_ap (f : SE) (g : SA) : aStar f g ρ S = (f ρ S >>= fun z => match z with | (r, ρ1, S1) => datOf ρ1 r >>= fun d => itemsOf d >>= fun ds => g ρ1 S1 >>= fun y => match y with | (rs, ρ2, S2) => some (ds.map Vl.im ++ rs, ρ2, S2)) := rfl
@[simp] theorem eTup_ap (g : SA) : eTup g ρ S = (g ρ S >>= fun z => match z with | (rs, ρ1, S1) => fzs ρ1 rs >>= fun y => match y with | (ss, ρ2) => imsOf ss >>= fun ds => if ds.length ≤ sizeLine then some (.im (.tuple ds), ρ2, S1) else none) := rfl
@[simp] theorem eLst_ap (g : SA) : eLst g ρ S = (g ρ S >>= fun z => match z with | (rs, ρ1, S1) => fzs ρ1 rs >>= fun y => match y with | (ss, ρ2) => imsOf ss >>= fun ds => if ds.length ≤ sizeLine then some (.ow (.list ds), ρ2, S1) else none) := rfl
@[simp] theorem eB_ap (g : List PyData → Option Rs) (a : SA) : eB g a ρ S = (a ρ S >>= fun z => match z with | (rs, ρ1, S1) => datsOf ρ1 rs >>= fun ds => g ds >>= fun r => some (r.vl, ρ1, S1)) := rfl
@[simp] theorem eSl_ap (f : SE) (lo hi : SO) : eSl f lo hi ρ S = (f ρ S >>= fun z => match z with | (r, ρ1, S1) => lo ρ1 S1 >>= fun y => match y with | (l, ρ2, S2) => hi ρ2 S2 >>= fun x => match x with | (h, ρ3, S3) => datOf ρ3 r >>= fun d => gSl d l h >>= fun o => some (o.vl, ρ3, S3)) := rfl
@[simp] theorem oNone_ap  : oNone  ρ S = some (none, ρ, S) := rfl
@[simp] theorem oSome_ap (f : SE) : oSome f ρ S = (f ρ S >>= fun z => match z with | (r, ρ1, S1) => match datOf ρ1 r with | some (.int i) => some (some i, ρ1, S1) | _ => none) := rfl
@[simp] theorem itE_ap (f : SE) : itE f ρ S = (f ρ S >>= fun z => match z with | (r, ρ1, S1) => datOf ρ1 r >>= fun d => itemsOf d >>= fun ds => some (ds, ρ1, S1)) := rfl
@[simp] theorem itF_ap (f : SE) : itF f ρ S = (f ρ S >>= fun z => match z with | (r, ρ1, S1) => fz ρ1 r >>= fun y => match y with | (s, ρ2) => match s with | .im d => itemsOf d >>= fun ds => some (ds, ρ2, S1) | _ => none) := rfl
@[simp] theorem itR_ap (g : SA) : itR g ρ S = (g ρ S >>= fun z => match z with | (rs, ρ1, S1) => datsOf ρ1 rs >>= fun es => rgOf es >>= fun ds => some (ds, ρ1, S1)) := rfl
@[simp] theorem eRgL_ap (g : SA) : eRgL g ρ S = (itR g ρ S >>= fun z => match z with | (ds, ρ1, S1) => some (.ow (.list ds), ρ1, S1)) := rfl
@[simp] theorem eRgT_ap (g : SA) : eRgT g ρ S = (itR g ρ S >>= fun z => match z with | (ds, ρ1, S1) => some (.im (.tuple ds), ρ1, S1)) := rfl
@[simp] theorem tYesS_ap  : tYesS  ρ S = some (true, ρ, S) := rfl
@[simp] theorem eCall_ap (n : Nat) (m : FS) (g : SA) : eCall n m g ρ S = (g ρ S >>= fun z => match z with | (rs, ρ1, S1) => fzs ρ1 rs >>= fun y => match y with | (ss, ρ2) => if ss.length = n then (m ss S1 >>= fun x => match x with | (d, S2) => some (.im d, ρ2, S2)) else none) := rfl
@[simp] theorem eFz_ap (f : SE) : eFz f ρ S = (f ρ S >>= fun z => match z with | (r, ρ1, S1) => fz ρ1 r >>= fun y => match y with | (s, ρ2) => match s with | .im d => some (.im d, ρ2, S1) | .so => some (.so, ρ2, S1) | _ => none) := rfl
theorem eOwn_ap (i : Nat) (g : List PyData → List PyData → Option (List PyData × PyData)) (a : SA) : eOwn i g a ρ S = match ρ[i]? with | some (.ow (.list _)) => (a ρ S >>= fun z => match z with | (rs, ρ1, S1) => fzs ρ1 rs >>= fun y => match y with | (ss, ρ2) => imsOf ss >>= fun es => match ρ2[i]? with | some (.ow (.list ds)) => (g ds es >>= fun x => match x with | (l, r) => some (.im r, ρ2.set i (.ow (.list l)), S1)) | _ => none) | _ => none := rfl
@[simp] theorem eSg_ap (i : Nat) (f : Fd) : eSg i f ρ S = match ρ[i]? with | some .so => some (.im (.int (f.get S)), ρ, S) | _ => none := rfl
@[simp] theorem eSlen_ap (i : Nat) : eSlen i ρ S = match ρ[i]? with | some .so => some (.im (.int S.cells.length), ρ, S) | _ => none := rfl
@[simp] theorem eSpop_ap (i : Nat) : eSpop i ρ S = match ρ[i]? with | some .so => (match S.cells.getLast? with | some c => some (.im (.int c), ρ, { S with cells := S.cells.dropLast }) | none => none) | _ => none := rfl
@[simp] theorem sSput_ap (i : Nat) (f : Fd) (e : SE) : sSput i f e ρ S = (e ρ S >>= fun z => match z with | (r, ρ1, S1) => match r with | .im (.int n) => (match ρ1[i]? with | some .so => some (.nx, ρ1, f.put S1 n) | _ => none) | _ => none) := rfl
@[simp] theorem eChn_ap (g g' : PyData → PyData → Option Rs) (fa fb fc : SE) : eChn g g' fa fb fc ρ S = (fa ρ S >>= fun z => match z with | (r1, ρ1, S1) => fb ρ1 S1 >>= fun y => match y with | (r2, ρ2, S2) => datOf ρ2 r1 >>= fun d1 => datOf ρ2 r2 >>= fun d2 => g d1 d2 >>= fun r => match r with | .im (.bool true) => (fc ρ2 S2 >>= fun x => match x with | (r3, ρ3, S3) => datOf ρ3 r2 >>= fun e2 => datOf ρ3 r3 >>= fun e3 => g' e2 e3 >>= fun o => some (o.vl, ρ3, S3)) | .im (.bool false) => some (.im (.bool false), ρ2, S2) | _ => none) := rfl
end
end Dn

set_option Elab.async false
set_option linter.all false
set_option maxRecDepth 100000
set_option maxHeartbeats 4000000
/-! Ev: the meanings computed. -/
namespace Dn
open PySem PySem.Spec PyProof.Rows L2

section
variable {ρ ρ1 ρ2 ρ3 : Rho} {S S1 S2 S3 : Src} {r r1 r2 : Vl} {d d1 d2 : PyData} {o : Rs}
theorem lcGo_fm {g : SG} {t : STt} {f : SE} {ρi : Rho} (p : PyData → Bool) (h : PyData → PyData) : ∀ (ds : List PyData), (∀ d ∈ ds, ∃ ρ1 ρ2, g d ρi = some ρ1 ∧ t ρ1 S = some (p d, ρ2, S) ∧ (p d = true → ∃ r ρ3 ρ4, f ρ2 S = some (r, ρ3, S) ∧ fz ρ3 r = some (.im (h d), ρ4))) →
    lcGo g t f ρi ds S = some ((ds.filter p).map h, S)
  | [], _ => rfl
  | d :: ds, H => by
    obtain ⟨ρ1, ρ2, h1, h2, h3⟩ := H d (List.mem_cons_self ..)
    have ih := lcGo_fm p h ds fun e he => H e (List.mem_cons_of_mem _ he)
    unfold lcGo
    rw [h1, bindS, h2, bindS]
    cases hp : p d with
    | false => simp only [hp, Bool.false_eq_true, if_false, List.filter_cons_of_neg (show ¬ p d = true by rw [hp]; exact Bool.false_ne_true)]; exact ih
    | true =>
      obtain ⟨r, ρ3, ρ4, h4, h5⟩ := h3 hp
      rw [List.filter_cons_of_pos hp, List.map_cons]
      simp only [if_true]
      rw [h4, bindS]
      simp only []
      rw [h5, bindS]
      simp only []
      rw [ih]
      rfl
theorem lc_ev {it : SIt} {vs : List Nat} {g : SG} {t : STt} {f : SE} {ds : List PyData} (p : PyData → Bool) (h : PyData → PyData) (h1 : it ρ S = some (ds, ρ1, S1)) (hz : ds.length ≤ sizeLine)
    (H : ∀ d ∈ ds, ∃ ρ2 ρ3, g d (inn ρ1 vs) = some ρ2 ∧ t ρ2 S1 = some (p d, ρ3, S1) ∧ (p d = true → ∃ r ρ4 ρ5, f ρ3 S1 = some (r, ρ4, S1) ∧ fz ρ4 r = some (.im (h d), ρ5))) :
    eLc it vs g t f ρ S = some (.ow (.list ((ds.filter p).map h)), ρ1, S1) := by
  unfold eLc
  rw [h1, bindS]
  simp only []
  rw [if_pos hz, lcGo_fm p h ds H]
  rfl
/-- the target one name; the test and the item leave the slots -/
theorem lc_ev1 {it : SIt} {vs : List Nat} {i : Nat} {t : STt} {f : SE} {ds : List PyData} (p : PyData → Bool) (h : PyData → PyData) (h1 : it ρ S = some (ds, ρ1, S1)) (hz : ds.length ≤ sizeLine)
    (H : ∀ d ∈ ds, t ((inn ρ1 vs).set i (.im d)) S1 = some (p d, (inn ρ1 vs).set i (.im d), S1) ∧ (p d = true → ∃ r ρ4 ρ5, f ((inn ρ1 vs).set i (.im d)) S1 = some (r, ρ4, S1) ∧ fz ρ4 r = some (.im (h d), ρ5))) :
    eLc it vs (gNm i) t f ρ S = some (.ow (.list ((ds.filter p).map h)), ρ1, S1) := lc_ev p h h1 hz fun d hd => ⟨_, _, rfl, (H d hd).1, (H d hd).2⟩
/-- no test -/
theorem lc_ev0 {it : SIt} {vs : List Nat} {i : Nat} {f : SE} {ds : List PyData} (h : PyData → PyData) (h1 : it ρ S = some (ds, ρ1, S1)) (hz : ds.length ≤ sizeLine)
    (H : ∀ d ∈ ds, ∃ r ρ4 ρ5, f ((inn ρ1 vs).set i (.im d)) S1 = some (r, ρ4, S1) ∧ fz ρ4 r = some (.im (h d), ρ5)) :
    eLc it vs (gNm i) tYesS f ρ S = some (.ow (.list (ds.map h)), ρ1, S1) := by
  refine (lc_ev1 (fun _ => true) h h1 hz fun d hd => ⟨rfl, fun _ => H d hd⟩).trans ?_
  rw [List.filter_eq_self.mpr fun _ _ => rfl]
/-- the items themselves -/
theorem lc_evF {it : SIt} {vs : List Nat} {i : Nat} {t : STt} {f : SE} {ds : List PyData} (p : PyData → Bool) (h1 : it ρ S = some (ds, ρ1, S1)) (hz : ds.length ≤ sizeLine) (hf : f = eVar i) (hi : i < (inn ρ1 vs).length)
    (H : ∀ d ∈ ds, t ((inn ρ1 vs).set i (.im d)) S1 = some (p d, (inn ρ1 vs).set i (.im d), S1)) :
    eLc it vs (gNm i) t f ρ S = some (.ow (.list (ds.filter p)), ρ1, S1) := by
  subst hf
  refine (lc_ev1 p id h1 hz fun d hd => ⟨H d hd, fun _ => ⟨.im d, (inn ρ1 vs).set i (.im d), (inn ρ1 vs).set i (.im d), ?_, rfl⟩⟩).trans (by rw [List.map_id])
  simp [hi]
end
end Dn

set_option Elab.async false
set_option linter.all false
set_option maxRecDepth 100000
set_option maxHeartbeats 4000000
/-! Enc: what is drawn and told, as data. -/
namespace Dn
open PySem PySem.Spec PyProof.Rows L2

class Enc (α : Type) [DecidableEq α] where
  en : α → PyData
  dp : Nat
  lay : ∀ a, (en a).canLay0 = true
  dep : ∀ a, (en a).depth ≤ dp
  eq : ∀ a b, PyData.eqv (en a) (en b) = decide (a = b)
theorem and_dec {p q r : Prop} [Decidable p] [Decidable q] [Decidable r] (h1 : r → p ∧ q) (h2 : p → q → r) : (decide p && decide q) = decide r := by
  rw [Bool.eq_iff_iff, Bool.and_eq_true, decide_eq_true_iff, decide_eq_true_iff, decide_eq_true_iff]
  exact ⟨fun h => h2 h.1 h.2, h1⟩
/-- a sequence as a tuple -/
def Tp (α : Type) := List α
/-- as a list -/
def Ls (α : Type) := List α
instance {α : Type} [DecidableEq α] : DecidableEq (Tp α) := inferInstanceAs (DecidableEq (List α))
instance {α : Type} [DecidableEq α] : DecidableEq (Ls α) := inferInstanceAs (DecidableEq (List α))
section
variable {α β : Type} [DecidableEq α] [DecidableEq β] [Enc α] [Enc β]
def en (a : α) : PyData := Enc.en a
/-- the tuple, the list of the items -/
def tu (l : List α) : PyData := .tuple (l.map en)
def li (l : List α) : PyData := .list (l.map en)
theorem layAll : ∀ l : List α, PyData.canLayAll0 (l.map en) = true
  | [] => rfl
  | a :: l => by
    rw [List.map_cons]
    simp only [PyData.canLayAll0, Bool.and_eq_true]
    exact ⟨Enc.lay a, layAll l⟩
theorem depAll : ∀ l : List α, PyData.depthAll (l.map en) ≤ Enc.dp α
  | [] => Nat.zero_le _
  | a :: l => by
    rw [List.map_cons]
    simp only [PyData.depthAll]
    exact Nat.max_le.mpr ⟨Enc.dep a, depAll l⟩
theorem eqvAll_en : ∀ l m : List α, PyData.eqvAll (l.map en) (m.map en) = decide (l = m)
  | [], [] => by simp [PyData.eqvAll]
  | [], b :: m => by simp [PyData.eqvAll]
  | a :: l, [] => by simp [PyData.eqvAll]
  | a :: l, b :: m => by
    rw [List.map_cons, List.map_cons]
    simp only [PyData.eqvAll]
    rw [eqvAll_en l m, show PyData.eqv (en a) (en b) = decide (a = b) from Enc.eq a b]
    exact and_dec (fun h => List.cons.inj h) fun h1 h2 => by rw [h1, h2]
instance : Enc Int where
  en := .int
  dp := 0
  lay := fun _ => by simp only [PyData.canLay0]
  dep := fun _ => by simp only [PyData.depth]; exact Nat.le_refl _
  eq := fun a b => by simp only [PyData.eqv]; rfl
instance : Enc (Tp α) where
  en := fun l => .tuple (List.map en l)
  dp := Enc.dp α + 1
  lay := fun l => by simp only [PyData.canLay0]; exact layAll l
  dep := fun l => by simp only [PyData.depth]; exact Nat.succ_le_succ (depAll l)
  eq := fun a b => by simp only [PyData.eqv]; exact eqvAll_en a b
instance : Enc (Ls α) where
  en := fun l => .list (List.map en l)
  dp := Enc.dp α + 1
  lay := fun l => by simp only [PyData.canLay0]; exact layAll l
  dep := fun l => by simp only [PyData.depth]; exact Nat.succ_le_succ (depAll l)
  eq := fun a b => by simp only [PyData.eqv]; exact eqvAll_en a b
instance : Enc (α × β) where
  en := fun p => .tuple [en p.1, en p.2]
  dp := max (Enc.dp α) (Enc.dp β) + 1
  lay := fun p => by
    simp only [PyData.canLay0, PyData.canLayAll0, Bool.and_eq_true]
    exact ⟨Enc.lay p.1, Enc.lay p.2, trivial⟩
  dep := fun p => by
    simp only [PyData.depth, PyData.depthAll]
    have h1 := Enc.dep p.1
    have h2 := Enc.dep p.2
    refine Nat.succ_le_succ ?_
    simp only [Nat.max_zero]
    exact Nat.max_le.mpr ⟨Nat.le_trans h1 (Nat.le_max_left _ _), Nat.le_trans h2 (Nat.le_max_right _ _)⟩
  eq := fun a b => by
    simp only [PyData.eqv, PyData.eqvAll]
    rw [show PyData.eqv (en a.1) (en b.1) = decide (a.1 = b.1) from Enc.eq a.1 b.1, show PyData.eqv (en a.2) (en b.2) = decide (a.2 = b.2) from Enc.eq a.2 b.2]
    rw [Bool.and_true]
    exact and_dec (fun h => by rw [h]; exact ⟨rfl, rfl⟩) fun h1 h2 => Prod.ext h1 h2
theorem en_int (i : Int) : en i = .int i := rfl
theorem en_tp (l : Tp α) : en l = tu (α := α) l := rfl
theorem en_ls (l : Ls α) : en l = li (α := α) l := rfl
theorem en_pair (p : α × β) : en p = .tuple [en p.1, en p.2] := rfl
theorem tu_eq (l : List α) : tu l = .tuple (l.map en) := rfl
theorem li_eq (l : List α) : li l = .list (l.map en) := rfl
theorem sh_en (a : α) (h : Enc.dp α ≤ 64 := by decide) : SeqAt.shaped (en a) = true := by
  unfold SeqAt.shaped
  rw [Bool.and_eq_true]
  exact ⟨Enc.lay a, decide_eq_true (Nat.le_trans (Enc.dep a) h)⟩
theorem sh_tu (l : List α) (h : Enc.dp α + 1 ≤ 64 := by decide) : SeqAt.shaped (tu l) = true := sh_en (α := Tp α) l h
theorem sh_li (l : List α) (h : Enc.dp α + 1 ≤ 64 := by decide) : SeqAt.shaped (li l) = true := sh_en (α := Ls α) l h
theorem eqv_en (a b : α) : PyData.eqv (en a) (en b) = decide (a = b) := Enc.eq a b
theorem eqv_tu (a b : List α) : PyData.eqv (tu a) (tu b) = decide (a = b) := Enc.eq (α := Tp α) a b
theorem eqv_li (a b : List α) : PyData.eqv (li a) (li b) = decide (a = b) := Enc.eq (α := Ls α) a b
theorem any_en (l : List α) (a : α) : ((l.map en).any fun z => PyData.eqv z (en a)) = decide (a ∈ l) := by
  rw [List.any_map]
  rw [Bool.eq_iff_iff, List.any_eq_true, decide_eq_true_iff]
  constructor
  · rintro ⟨b, hb, h⟩
    simp only [Function.comp, eqv_en, decide_eq_true_iff] at h
    rw [← h]; exact hb
  · intro h
    exact ⟨a, h, by simp [Function.comp, eqv_en]⟩
theorem filt_en (p : PyData → Bool) (l : List α) : (l.map en).filter p = (l.filter fun a => p (en a)).map en := List.filter_map
/-! ### the operations -/
theorem gEq_en (a b : α) (h : Enc.dp α ≤ 64 := by decide) : gEq (en a) (en b) = some (.im (.bool (decide (a = b)))) := by
  refine gEq_of ?_
  unfold gEqD chk
  rw [if_pos ⟨sh_en a h, sh_en b h⟩, eqv_en]
theorem gNe_en (a b : α) (h : Enc.dp α ≤ 64 := by decide) : gNe (en a) (en b) = some (.im (.bool (!decide (a = b)))) := by
  refine gNe_of ?_
  unfold gNeD chk
  rw [if_pos ⟨sh_en a h, sh_en b h⟩, eqv_en]
theorem gEq_tu (a b : List α) (h : Enc.dp α + 1 ≤ 64 := by decide) : gEq (tu a) (tu b) = some (.im (.bool (decide (a = b)))) := gEq_en (α := Tp α) a b h
theorem gNe_tu (a b : List α) (h : Enc.dp α + 1 ≤ 64 := by decide) : gNe (tu a) (tu b) = some (.im (.bool (!decide (a = b)))) := gNe_en (α := Tp α) a b h
theorem gEq_li (a b : List α) (h : Enc.dp α + 1 ≤ 64 := by decide) : gEq (li a) (li b) = some (.im (.bool (decide (a = b)))) := gEq_en (α := Ls α) a b h
theorem gNe_li (a b : List α) (h : Enc.dp α + 1 ≤ 64 := by decide) : gNe (li a) (li b) = some (.im (.bool (!decide (a = b)))) := gNe_en (α := Ls α) a b h
theorem gIn_tu (a : α) (l : List α) (h : Enc.dp α + 1 ≤ 64 := by decide) : gInS false (en a) (tu l) = some (.im (.bool (decide (a ∈ l)))) := by
  show chk (SeqAt.shaped (en a) = true ∧ SeqAt.shaped (tu l) = true) _ = _
  unfold chk
  rw [if_pos ⟨sh_en a (by omega), sh_tu l h⟩]
  simp only [Bool.false_eq_true, if_false, any_en]
theorem gNi_tu (a : α) (l : List α) (h : Enc.dp α + 1 ≤ 64 := by decide) : gInS true (en a) (tu l) = some (.im (.bool (!decide (a ∈ l)))) := by
  show chk (SeqAt.shaped (en a) = true ∧ SeqAt.shaped (tu l) = true) _ = _
  unfold chk
  rw [if_pos ⟨sh_en a (by omega), sh_tu l h⟩]
  simp only [if_true, any_en]
theorem gIn_li (a : α) (l : List α) (h : Enc.dp α + 1 ≤ 64 := by decide) : gInS false (en a) (li l) = some (.im (.bool (decide (a ∈ l)))) := by
  show chk (SeqAt.shaped (en a) = true ∧ SeqAt.shaped (li l) = true) _ = _
  unfold chk
  rw [if_pos ⟨sh_en a (by omega), sh_li l h⟩]
  simp only [Bool.false_eq_true, if_false, any_en]
theorem gNi_li (a : α) (l : List α) (h : Enc.dp α + 1 ≤ 64 := by decide) : gInS true (en a) (li l) = some (.im (.bool (!decide (a ∈ l)))) := by
  show chk (SeqAt.shaped (en a) = true ∧ SeqAt.shaped (li l) = true) _ = _
  unfold chk
  rw [if_pos ⟨sh_en a (by omega), sh_li l h⟩]
  simp only [if_true, any_en]
end
/-! ### ranges -/
/-- 0, 1, .. below n -/
def rng (n : Nat) : List Int := (List.range n).map fun i => Int.ofNat i
theorem rgD_rng (n : Nat) : rgD 0 n = (rng n).map en := by
  unfold rgD rng
  rw [List.map_map]
  simp only [Int.sub_zero, Int.toNat_natCast]
  apply List.map_congr_left
  intro i _
  show PyData.int (0 + (i : Nat)) = .int (Int.ofNat i)
  rw [Int.zero_add]
  rfl
theorem rng_len (n : Nat) : (rng n).length = n := by unfold rng; rw [List.length_map, List.length_range]
theorem mem_rng {n : Nat} {i : Int} : i ∈ rng n ↔ 0 ≤ i ∧ i < n := by
  unfold rng
  rw [List.mem_map]
  constructor
  · rintro ⟨k, h, rfl⟩
    rw [List.mem_range] at h
    constructor
    · exact Int.natCast_nonneg k
    · exact Int.ofNat_lt.mpr h
  · intro ⟨h1, h2⟩
    exact ⟨i.toNat, List.mem_range.mpr (by omega), Int.toNat_of_nonneg h1⟩
theorem smallN {n : Nat} (h : n ≤ 16777216) : smallI (n : Int) = true := by
  unfold smallI
  rw [Bool.and_eq_true]
  exact ⟨decide_eq_true (by omega), decide_eq_true (by omega)⟩
theorem rgOf1 {n : Nat} (h : n ≤ 16777216) : rgOf [.int n] = some ((rng n).map en) := by
  show (if smallI (n : Int) = true then some (rgD 0 (n : Int)) else none) = _
  rw [if_pos (smallN h), rgD_rng]
end Dn

set_option Elab.async false
set_option linter.all false
set_option maxRecDepth 100000
set_option maxHeartbeats 4000000
/-! Lp: loops and defs computed. -/
namespace Dn
open PySem PySem.Spec PyProof.Rows L2

section
variable {τ α : Type} {g : SG} {b : SS} {t : STt}
/-- for, each turn to its end -/
theorem forT (e : α → PyData) (mk : τ → Rho) (sk : τ → Src) (step : τ → α → τ) (P : τ → List α → Prop)
    (H : ∀ a l t, P t (a :: l) → ∃ ρ1, g (e a) (mk t) = some ρ1 ∧ (b ρ1 (sk t) = some (.nx, mk (step t a), sk (step t a)) ∨ b ρ1 (sk t) = some (.ct, mk (step t a), sk (step t a))) ∧ P (step t a) l) :
    ∀ l t, P t l → forGo g b (l.map e) (mk t) (sk t) = some (.nx, mk (l.foldl step t), sk (l.foldl step t)) ∧ P (l.foldl step t) []
  | [], t, p => ⟨rfl, p⟩
  | a :: l, t, p => by
    obtain ⟨ρ1, h1, h2, h3⟩ := H a l t p
    have ih := forT e mk sk step P H l _ h3
    rw [List.foldl_cons]
    refine ⟨?_, ih.2⟩
    rw [List.map_cons]
    unfold forGo
    rw [h1, bindS]
    rcases h2 with h2 | h2
    · rw [h2, bindS]; exact ih.1
    · rw [h2, bindS]; exact ih.1
/-- for, with a return: r says whether the turn returns -/
theorem forR (e : α → PyData) (mk : τ → Rho) (sk : τ → Src) (step : τ → α → τ) (r : τ → α → Option PyData) (P : τ → List α → Prop)
    (H : ∀ a l t, P t (a :: l) → ∃ ρ1, g (e a) (mk t) = some ρ1 ∧ match r t a with
      | some d => ∃ ρ2 S2, b ρ1 (sk t) = some (.rt d, ρ2, S2) ∧ S2 = sk (step t a)
      | none => b ρ1 (sk t) = some (.nx, mk (step t a), sk (step t a)) ∧ P (step t a) l) :
    ∀ l t, P t l → (∃ ρ2, forGo g b (l.map e) (mk t) (sk t) = some (.nx, ρ2, sk (l.foldl step t)) ∧ ρ2 = mk (l.foldl step t) ∧ P (l.foldl step t) [] ∧ ∀ l1 a l2, l = l1 ++ a :: l2 → r (l1.foldl step t) a = none) ∨
      ∃ l1 a l2 d ρ2, l = l1 ++ a :: l2 ∧ r (l1.foldl step t) a = some d ∧ (∀ l3 a' l4, l1 = l3 ++ a' :: l4 → r (l3.foldl step t) a' = none) ∧ forGo g b (l.map e) (mk t) (sk t) = some (.rt d, ρ2, sk ((l1 ++ [a]).foldl step t))
  | [], t, p => .inl ⟨_, rfl, rfl, p, fun l1 a l2 h => by simp at h⟩
  | a :: l, t, p => by
    obtain ⟨ρ1, h1, h2⟩ := H a l t p
    cases hr : r t a with
    | some d =>
      rw [hr] at h2
      obtain ⟨ρ2, S2, h3, rfl⟩ := h2
      refine .inr ⟨[], a, l, d, ρ2, rfl, hr, fun l3 a' l4 h => by simp at h, ?_⟩
      rw [List.map_cons]
      unfold forGo
      rw [h1, bindS, h3, bindS]
      rfl
    | none =>
      rw [hr] at h2
      obtain ⟨h3, h4⟩ := h2
      have e1 : forGo g b ((a :: l).map e) (mk t) (sk t) = forGo g b (l.map e) (mk (step t a)) (sk (step t a)) := by
        rw [List.map_cons]
        conv => lhs; unfold forGo
        rw [h1, bindS, h3, bindS]
      rcases forR e mk sk step r P H l _ h4 with ⟨ρ2, q1, q2, q3, q4⟩ | ⟨l1, a', l2, d, ρ2, q1, q2, q3, q4⟩
      · refine .inl ⟨ρ2, by rw [e1, q1]; rfl, q2, q3, fun l1 a' l2 h => ?_⟩
        cases l1 with
        | nil => cases h; exact hr
        | cons x l1 => cases h; exact q4 l1 a' l2 rfl
      · refine .inr ⟨a :: l1, a', l2, d, ρ2, by rw [q1]; rfl, q2, fun l3 a'' l4 h => ?_, by rw [e1, q4]; rfl⟩
        cases l3 with
        | nil => cases h; exact hr
        | cons x l3 => cases h; exact q3 l3 a'' l4 rfl
/-- while, n turns at most -/
def loopF (c : τ → Bool) (step : τ → τ) : Nat → τ → τ
  | 0, t => t
  | n + 1, t => if c t then loopF c step n (step t) else t
theorem whT (mk : τ → Rho) (sk : τ → Src) (c : τ → Bool) (step : τ → τ) (P : Nat → τ → Prop) (H0 : ∀ n s, P n s → t (mk s) (sk s) = some (c s, mk s, sk s))
    (H : ∀ n s, P n s → c s = true → ∃ m, n = m + 1 ∧ P m (step s) ∧ (b (mk s) (sk s) = some (.nx, mk (step s), sk (step s)) ∨ b (mk s) (sk s) = some (.ct, mk (step s), sk (step s)))) :
    ∀ n s, P n s → whGo t b (n + 1) (mk s) (sk s) = some (.nx, mk (loopF c step n s), sk (loopF c step n s)) ∧ c (loopF c step n s) = false ∧ ∃ m, P m (loopF c step n s)
  | n, s, p => by
    unfold whGo
    rw [H0 n s p, bindS]
    cases hc : c s with
    | false =>
      have : loopF c step n s = s := by cases n with
        | zero => rfl
        | succ n => show (if c s then _ else s) = s; rw [hc]; rfl
      rw [this]
      exact ⟨rfl, hc, n, p⟩
    | true =>
      obtain ⟨m, rfl, pm, hb⟩ := H n s p hc
      have ih := whT mk sk c step P H0 H m (step s) pm
      have e : loopF c step (m + 1) s = loopF c step m (step s) := by show (if c s then _ else s) = _; rw [hc]; rfl
      rw [e]
      refine ⟨?_, ih.2⟩
      rcases hb with hb | hb
      · show (b (mk s) (sk s) >>= fun _ => _) = _
        rw [hb, bindS]; exact ih.1
      · show (b (mk s) (sk s) >>= fun _ => _) = _
        rw [hb, bindS]; exact ih.1
theorem sWh_T {ρ ρ' : Rho} {S S' : Src} {fl : Fl} {n : Nat} (h : whGo t b n ρ S = some (fl, ρ', S')) (hn : n ≤ fuel) : sWh t b ρ S = some (fl, ρ', S') := sWh_of hn h
end

/-! ### defs by what they give -/
section
variable {α : Type}
/-- a def that gives f of its arguments -/
noncomputable def FSof (enc : α → List Sl) (ok : α → Prop) (f : α → PyData) : FS := fun ss S => open Classical in if h : ∃ a, ss = enc a ∧ ok a then some (f h.choose, S) else none
theorem FSof_sem {enc : α → List Sl} {ok : α → Prop} {f : α → PyData} {m : FS} (H : ∀ a S, ok a → m (enc a) S = some (f a, S)) : ∀ ss S r, FSof enc ok f ss S = some r → m ss S = some r := fun ss S r e => by
  unfold FSof at e
  split at e
  · rename_i h
    cases e
    have := H h.choose S h.choose_spec.2
    rw [← h.choose_spec.1] at this
    exact this
  · cases e
theorem FSof_at {enc : α → List Sl} {ok : α → Prop} {f : α → PyData} (inj : ∀ a b, enc a = enc b → f a = f b) {a : α} (h : ok a) (S : Src) : FSof enc ok f (enc a) S = some (f a, S) := by
  unfold FSof
  have q : ∃ b, enc a = enc b ∧ ok b := ⟨a, rfl, h⟩
  rw [dif_pos q, inj _ _ q.choose_spec.1.symm]
/-- .. and changes the source -/
noncomputable def FSrc (enc : α → List Sl) (ok : α → Src → Prop) (f : α → Src → PyData × Src) : FS := fun ss S => open Classical in if h : ∃ a, ss = enc a ∧ ok a S then some (f h.choose S) else none
theorem FSrc_sem {enc : α → List Sl} {ok : α → Src → Prop} {f : α → Src → PyData × Src} {m : FS} (H : ∀ a S, ok a S → m (enc a) S = some (f a S)) : ∀ ss S r, FSrc enc ok f ss S = some r → m ss S = some r := fun ss S r e => by
  unfold FSrc at e
  split at e
  · rename_i h
    cases e
    have := H h.choose S h.choose_spec.2
    rw [← h.choose_spec.1] at this
    exact this
  · cases e
theorem FSrc_at {enc : α → List Sl} {ok : α → Src → Prop} {f : α → Src → PyData × Src} (inj : ∀ a b, enc a = enc b → f a = f b) {a : α} {S : Src} (h : ok a S) : FSrc enc ok f (enc a) S = some (f a S) := by
  unfold FSrc
  have q : ∃ b, enc a = enc b ∧ ok b S := ⟨a, rfl, h⟩
  rw [dif_pos q, inj _ _ q.choose_spec.1.symm]
end
section
variable {α : Type} [DecidableEq α] [Enc α]
theorem en_inj {a b : α} (h : en a = en b) : a = b := by
  have := eqv_en a a
  rw [show PyData.eqv (en a) (en a) = PyData.eqv (en a) (en b) by rw [h], eqv_en, decide_eq_true (rfl : a = a)] at this
  exact of_decide_eq_true this
theorem tu_inj {a b : List α} (h : tu a = tu b) : a = b := en_inj (α := Tp α) h
theorem li_inj {a b : List α} (h : li a = li b) : a = b := en_inj (α := Ls α) h
end
theorem fold_fst {α β γ : Type} {f : α → β → α} {step : α × γ → β → α × γ} (h : ∀ t b, (step t b).1 = f t.1 b) : ∀ (l : List β) (t : α × γ), (l.foldl step t).1 = l.foldl f t.1
  | [], t => rfl
  | b :: l, t => by rw [List.foldl_cons, List.foldl_cons, fold_fst h l, h]
section
variable {m n b : SS} {f : SE} {ρ ρ1 ρ2 : Rho} {S S1 : Src} {d : PyData} {r : Vl}
theorem seqN (h : m ρ S = some (.nx, ρ1, S1)) : sSeq m n ρ S = n ρ1 S1 := by rw [sSeq_ap, h]; rfl
theorem seqR (h : m ρ S = some (.rt d, ρ1, S1)) : sSeq m n ρ S = some (.rt d, ρ1, S1) := by rw [sSeq_ap, h]; rfl
theorem fnD_rt {k : Nat} {ss : List Sl} (h : b (ss ++ List.replicate (k - ss.length) .un) S = some (.rt d, ρ1, S1)) : fnD k b ss S = some (d, S1) := by
  unfold fnD
  rw [h]; rfl
theorem fnD_nx {k : Nat} {ss : List Sl} (h : b (ss ++ List.replicate (k - ss.length) .un) S = some (.nx, ρ1, S1)) : fnD k b ss S = some (.none, S1) := by
  unfold fnD
  rw [h]; rfl
end
/-- for, by what holds at each turn -/
theorem forE {α : Type} {g : SG} {b : SS} (e : α → PyData) (P : List α → Rho → Src → Prop) (H : ∀ a l ρ S, P (a :: l) ρ S → ∃ ρ1 ρ2 S2, g (e a) ρ = some ρ1 ∧ (b ρ1 S = some (.nx, ρ2, S2) ∨ b ρ1 S = some (.ct, ρ2, S2)) ∧ P l ρ2 S2) :
    ∀ l ρ S, P l ρ S → ∃ ρ' S', forGo g b (l.map e) ρ S = some (.nx, ρ', S') ∧ P [] ρ' S'
  | [], ρ, S, p => ⟨ρ, S, rfl, p⟩
  | a :: l, ρ, S, p => by
    obtain ⟨ρ1, ρ2, S2, h1, h2, h3⟩ := H a l ρ S p
    obtain ⟨ρ', S', h4, h5⟩ := forE e P H l ρ2 S2 h3
    refine ⟨ρ', S', ?_, h5⟩
    rw [List.map_cons]
    unfold forGo
    rw [h1, bindS]
    rcases h2 with h2 | h2
    · rw [h2, bindS]; exact h4
    · rw [h2, bindS]; exact h4
/-- while, by what holds at each turn -/
theorem whE {t : STt} {b : SS} (P : Nat → Rho → Src → Prop) (R : Rho → Src → Prop) (H : ∀ n ρ S, P n ρ S → (∃ ρ1 S1, t ρ S = some (false, ρ1, S1) ∧ R ρ1 S1) ∨ ∃ m ρ1 S1 ρ2 S2, n = m + 1 ∧ t ρ S = some (true, ρ1, S1) ∧ (b ρ1 S1 = some (.nx, ρ2, S2) ∨ b ρ1 S1 = some (.ct, ρ2, S2)) ∧ P m ρ2 S2) :
    ∀ n ρ S, P n ρ S → ∃ ρ' S', whGo t b (n + 1) ρ S = some (.nx, ρ', S') ∧ R ρ' S'
  | n, ρ, S, p => by
    rcases H n ρ S p with ⟨ρ1, S1, h1, h2⟩ | ⟨m, ρ1, S1, ρ2, S2, rfl, h1, h2, h3⟩
    · refine ⟨ρ1, S1, ?_, h2⟩
      unfold whGo
      rw [h1, bindS]
      rfl
    · obtain ⟨ρ', S', h4, h5⟩ := whE P R H m ρ2 S2 h3
      refine ⟨ρ', S', ?_, h5⟩
      unfold whGo
      rw [h1, bindS]
      rcases h2 with h2 | h2
      · show (b ρ1 S1 >>= fun _ => _) = _
        rw [h2, bindS]; exact h4
      · show (b ρ1 S1 >>= fun _ => _) = _
        rw [h2, bindS]; exact h4
end Dn

set_option Elab.async false
set_option linter.all false
set_option maxRecDepth 100000
set_option maxHeartbeats 4000000
/-! Ops: the operations on typed data, as simp lemmas. -/
namespace Dn
open PySem PySem.Spec PyProof.Rows L2

@[simp] theorem dp_int : Enc.dp Int = 0 := rfl
@[simp] theorem dp_tp {α : Type} [DecidableEq α] [Enc α] : Enc.dp (Tp α) = Enc.dp α + 1 := rfl
@[simp] theorem dp_ls {α : Type} [DecidableEq α] [Enc α] : Enc.dp (Ls α) = Enc.dp α + 1 := rfl
@[simp] theorem dp_pair {α β : Type} [DecidableEq α] [Enc α] [DecidableEq β] [Enc β] : Enc.dp (α × β) = max (Enc.dp α) (Enc.dp β) + 1 := rfl
@[simp] theorem vl_im (d : PyData) : Rs.vl (.im d) = .im d := rfl
@[simp] theorem vl_ow (d : PyData) : Rs.vl (.ow d) = .ow d := rfl
@[simp] theorem datOf_im (ρ : Rho) (d : PyData) : datOf ρ (.im d) = some d := rfl
@[simp] theorem datOf_ow (ρ : Rho) (d : PyData) : datOf ρ (.ow d) = some d := rfl
@[simp] theorem datOf_bo (ρ : Rho) (i : Nat) : datOf ρ (.bo i) = match ρ[i]? with | some (.im d) => some d | some (.ow d) => some d | some (.ro d) => some d | _ => none := rfl
@[simp] theorem datsOf_nil (ρ : Rho) : datsOf ρ [] = some [] := rfl
@[simp] theorem datsOf_cons (ρ : Rho) (r : Vl) (rs : List Vl) : datsOf ρ (r :: rs) = (datOf ρ r >>= fun d => datsOf ρ rs >>= fun ds => some (d :: ds)) := rfl
@[simp] theorem fz_im (ρ : Rho) (d : PyData) : fz ρ (.im d) = some (.im d, ρ) := rfl
@[simp] theorem fz_ow (ρ : Rho) (d : PyData) : fz ρ (.ow d) = some (.im d, ρ) := rfl
@[simp] theorem fz_so (ρ : Rho) : fz ρ .so = some (.so, ρ) := rfl
@[simp] theorem fz_bo (ρ : Rho) (i : Nat) : fz ρ (.bo i) = match ρ[i]? with | some (.im d) => some (.im d, ρ) | some (.ow d) => some (.im d, ρ.set i (.im d)) | _ => none := rfl
@[simp] theorem fzs_nil (ρ : Rho) : fzs ρ [] = some ([], ρ) := rfl
@[simp] theorem fzs_cons (ρ : Rho) (r : Vl) (rs : List Vl) : fzs ρ (r :: rs) = (fz ρ r >>= fun z => match z with | (s, ρ1) => fzs ρ1 rs >>= fun y => match y with | (ss, ρ2) => some (s :: ss, ρ2)) := rfl
@[simp] theorem imsOf_nil : imsOf [] = some [] := rfl
@[simp] theorem imsOf_cons (d : PyData) (ss : List Sl) : imsOf (.im d :: ss) = (imsOf ss >>= fun ds => some (d :: ds)) := rfl
@[simp] theorem stV_im (ρ : Rho) (i : Nat) (d : PyData) : stV ρ i (.im d) = some (ρ.set i (.im d)) := rfl
@[simp] theorem stV_so (ρ : Rho) (i : Nat) : stV ρ i .so = some (ρ.set i .so) := rfl
@[simp] theorem stV_ow (ρ : Rho) (i : Nat) (d : PyData) : stV ρ i (.ow d) = if noRo ρ = true then some (ρ.set i (.ow d)) else none := rfl
@[simp] theorem noRo_nil : noRo [] = true := rfl
@[simp] theorem noRo_ro (d : PyData) (r : Rho) : noRo (.ro d :: r) = false := rfl
@[simp] theorem noRo_un (r : Rho) : noRo (.un :: r) = noRo r := rfl
@[simp] theorem noRo_im (d : PyData) (r : Rho) : noRo (.im d :: r) = noRo r := rfl
@[simp] theorem noRo_ow (d : PyData) (r : Rho) : noRo (.ow d :: r) = noRo r := rfl
@[simp] theorem noRo_so (r : Rho) : noRo (.so :: r) = noRo r := rfl
@[simp] theorem g1_ap (g : PyData → Option Rs) (d : PyData) : g1 g [d] = g d := rfl
@[simp] theorem g2_ap (g : PyData → PyData → Option Rs) (d e : PyData) : g2 g [d, e] = g d e := rfl
@[simp] theorem gNm_ap (i : Nat) (d : PyData) (ρ : Rho) : gNm i d ρ = some (ρ.set i (.im d)) := rfl
@[simp] theorem gTp_ap (gs : SGs) (d : PyData) (ρ : Rho) : gTp gs d ρ = (itemsOf d >>= fun ds => gs ds ρ) := rfl
@[simp] theorem gsNil_ap (ρ : Rho) : gsNil [] ρ = some ρ := rfl
@[simp] theorem gsCons_ap (g : SG) (gs : SGs) (d : PyData) (ds : List PyData) (ρ : Rho) : gsCons g gs (d :: ds) ρ = (g d ρ >>= fun ρ1 => gs ds ρ1) := rfl
@[simp] theorem parSt_ap (ρ : Rho) (l : List Nat) (rs : List Vl) : parSt ρ l rs = if noBo rs = true then stVs ρ l rs else (fzs ρ rs >>= fun z => match z with | (ss, ρ2) => imsOf ss >>= fun ds => stVs ρ2 l (ds.map .im)) := rfl
@[simp] theorem noBo_nil : noBo [] = true := rfl
@[simp] theorem noBo_bo (i : Nat) (rs : List Vl) : noBo (.bo i :: rs) = false := rfl
@[simp] theorem noBo_im (d : PyData) (rs : List Vl) : noBo (.im d :: rs) = noBo rs := rfl
@[simp] theorem noBo_ow (d : PyData) (rs : List Vl) : noBo (.ow d :: rs) = noBo rs := rfl
@[simp] theorem noBo_so (rs : List Vl) : noBo (.so :: rs) = noBo rs := rfl
@[simp] theorem stVs_nil (ρ : Rho) : stVs ρ [] [] = some ρ := rfl
@[simp] theorem stVs_cons (ρ : Rho) (i : Nat) (l : List Nat) (r : Vl) (rs : List Vl) : stVs ρ (i :: l) (r :: rs) = (stV ρ i r >>= fun ρ1 => stVs ρ1 l rs) := rfl
@[simp] theorem roSl_un : roSl .un = .un := rfl
@[simp] theorem roSl_im (d : PyData) : roSl (.im d) = .im d := rfl
@[simp] theorem roSl_ow (d : PyData) : roSl (.ow d) = .ro d := rfl
@[simp] theorem roSl_so : roSl .so = .so := rfl
@[simp] theorem roSl_ro (d : PyData) : roSl (.ro d) = .ro d := rfl
@[simp] theorem inn_nil (ρ : Rho) : inn ρ [] = ρ.map roSl := rfl
@[simp] theorem inn_cons (ρ : Rho) (v : Nat) (vs : List Nat) : inn ρ (v :: vs) = (inn ρ vs).set v .un := rfl
/-! ints -/
@[simp] theorem gAdd_int (i j : Int) : gAdd (.int i) (.int j) = some (.im (.int (i + j))) := rfl
@[simp] theorem gSub_int (i j : Int) : gSub (.int i) (.int j) = some (.im (.int (i - j))) := rfl
@[simp] theorem gLt_int (i j : Int) : gLt (.int i) (.int j) = some (.im (.bool (decide (i < j)))) := rfl
@[simp] theorem gLe_int (i j : Int) : gLe (.int i) (.int j) = some (.im (.bool (decide (i ≤ j)))) := rfl
@[simp] theorem gGt_int (i j : Int) : gGt (.int i) (.int j) = some (.im (.bool (decide (j < i)))) := rfl
@[simp] theorem gGe_int (i j : Int) : gGe (.int i) (.int j) = some (.im (.bool (decide (j ≤ i)))) := rfl
@[simp] theorem gEq_int (i j : Int) : gEq (.int i) (.int j) = some (.im (.bool (decide (i = j)))) := gEq_en i j
@[simp] theorem gNe_int (i j : Int) : gNe (.int i) (.int j) = some (.im (.bool (!decide (i = j)))) := gNe_en i j
@[simp] theorem gInt_int (i : Int) : gInt (.int i) = some (.im (.int i)) := rfl
@[simp] theorem gMax2_int (i j : Int) : gMax2 (.int i) (.int j) = some (.im (.int (if j > i then j else i))) := rfl
@[simp] theorem gMin2_int (i j : Int) : gMin2 (.int i) (.int j) = some (.im (.int (if j < i then j else i))) := rfl
@[simp] theorem gNeg_int (i : Int) : gNeg (.int i) = some (.im (.int (-i))) := rfl
theorem gMul_int {i j : Int} (h : CMul i j) : gMul (.int i) (.int j) = some (.im (.int (i * j))) := by
  show chk _ _ = _
  unfold chk; rw [if_pos h]
theorem gDiv_int {i j : Int} (h : CDivN i j) : gDiv (.int i) (.int j) = some (.im (.int (i.fdiv j))) := by
  show chk _ _ = _
  unfold chk; rw [if_pos h]
theorem gMod_int {i j : Int} (h : j ≠ 0) : gMod (.int i) (.int j) = some (.im (.int (i.fmod j))) := by
  show chk _ _ = _
  unfold chk; rw [if_pos h]
@[simp] theorem gEq_bool (a b : Bool) : gEq (.bool a) (.bool b) = some (.im (.bool (a == b))) := rfl
@[simp] theorem gNe_bool (a b : Bool) : gNe (.bool a) (.bool b) = some (.im (.bool (!(a == b)))) := rfl
section
variable {α : Type} [DecidableEq α] [Enc α]
@[simp] theorem items_tu (l : List α) : itemsOf (tu l) = some (l.map en) := rfl
@[simp] theorem items_li (l : List α) : itemsOf (li l) = some (l.map en) := rfl
@[simp] theorem gTuple_li (l : List α) : gTuple (li l) = some (.im (tu l)) := rfl
@[simp] theorem gTuple_tu (l : List α) : gTuple (tu l) = some (.im (tu l)) := rfl
@[simp] theorem gList_li (l : List α) : gList (li l) = some (.ow (li l)) := rfl
@[simp] theorem gList_tu (l : List α) : gList (tu l) = some (.ow (li l)) := rfl
@[simp] theorem gLen_li (l : List α) : gLen (li l) = some (.im (.int l.length)) := by show some (Rs.im (.int (l.map en).length)) = _; rw [List.length_map]
@[simp] theorem gLen_tu (l : List α) : gLen (tu l) = some (.im (.int l.length)) := by show some (Rs.im (.int (l.map en).length)) = _; rw [List.length_map]
theorem atI_en {l : List α} {i : Nat} {a : α} (h : l[i]? = some a) : atI (l.map en) (i : Int) = some (en a) := atI_nat (by rw [List.getElem?_map, h]; rfl)
theorem gIx_tu {l : List α} {i : Nat} {a : α} (h : l[i]? = some a) : gIx (tu l) (.int i) = some (.im (en a)) := by
  show (atI (l.map en) (i : Int)).map _ = _
  rw [atI_en h]; rfl
theorem gIx_li {l : List α} {i : Nat} {a : α} (h : l[i]? = some a) : gIx (li l) (.int i) = some (.im (en a)) := by
  show (atI (l.map en) (i : Int)).map _ = _
  rw [atI_en h]; rfl
@[simp] theorem gIx_tu0 (a : α) (l : List α) : gIx (tu (a :: l)) (.int 0) = some (.im (en a)) := gIx_tu (i := 0) rfl
@[simp] theorem gIx_li0 (a : α) (l : List α) : gIx (li (a :: l)) (.int 0) = some (.im (en a)) := gIx_li (i := 0) rfl
theorem gAdd_tu (l m : List α) (h : l.length + m.length ≤ sizeLine) : gAdd (tu l) (tu m) = some (.im (tu (l ++ m))) := by
  show chk _ _ = _
  unfold chk; rw [if_pos (by rw [List.length_map, List.length_map]; exact h), tu, List.map_append]
theorem gAdd_li (l m : List α) (h : l.length + m.length ≤ sizeLine) : gAdd (li l) (li m) = some (.ow (li (l ++ m))) := by
  show chk _ _ = _
  unfold chk; rw [if_pos (by rw [List.length_map, List.length_map]; exact h), li, List.map_append]
@[simp] theorem gEq_tuS (a b : List α) (h : Enc.dp α + 1 ≤ 64) : gEq (tu a) (tu b) = some (.im (.bool (decide (a = b)))) := gEq_tu a b h
theorem oAppend_li (l : List α) (a : α) (h : l.length < sizeLine) : oAppend (l.map en) [en a] = some ((l ++ [a]).map en, .none) := by
  show (if (l.map en).length < sizeLine then some (l.map en ++ [en a], PyData.none) else none) = _
  rw [if_pos (by rw [List.length_map]; exact h), List.map_append]; rfl
/-- the typed form of lc_evF -/
theorem lc_evT {it : SIt} {vs : List Nat} {i : Nat} {t : STt} {f : SE} {ρ ρ1 : Rho} {S S1 : Src} {l : List α} (p : α → Bool) (h1 : it ρ S = some (l.map en, ρ1, S1)) (hz : l.length ≤ sizeLine) (hf : f = eVar i) (hi : i < (inn ρ1 vs).length)
    (H : ∀ a ∈ l, t ((inn ρ1 vs).set i (.im (en a))) S1 = some (p a, (inn ρ1 vs).set i (.im (en a)), S1)) :
    eLc it vs (gNm i) t f ρ S = some (.ow (li (l.filter p)), ρ1, S1) := by
  have key : ∀ l : List α, (∀ a ∈ l, t ((inn ρ1 vs).set i (.im (en a))) S1 = some (p a, (inn ρ1 vs).set i (.im (en a)), S1)) → lcGo (gNm i) t f (inn ρ1 vs) (l.map en) S1 = some ((l.filter p).map en, S1) := by
    intro l
    induction l with
    | nil => intro _; rfl
    | cons a l ih =>
      intro H
      have e := H a (List.mem_cons_self ..)
      rw [List.map_cons]
      unfold lcGo
      rw [gNm_ap, bindS, e, bindS]
      have ih' := ih fun b hb => H b (List.mem_cons_of_mem _ hb)
      cases hp : p a with
      | false => rw [List.filter_cons_of_neg (by rw [hp]; exact Bool.false_ne_true)]; simpa using ih'
      | true =>
        rw [List.filter_cons_of_pos hp, List.map_cons]
        subst hf
        simp [hi, ih']
  unfold eLc
  rw [h1, bindS]
  simp only []
  rw [if_pos (by rw [List.length_map]; exact hz), key l H]
  rfl
/-- items mapped -/
theorem lc_evM {β : Type} [DecidableEq β] [Enc β] {it : SIt} {vs : List Nat} {i : Nat} {f : SE} {ρ ρ1 : Rho} {S S1 : Src} {l : List α} (h : α → β) (h1 : it ρ S = some (l.map en, ρ1, S1)) (hz : l.length ≤ sizeLine)
    (H : ∀ a ∈ l, ∃ r ρ4 ρ5, f ((inn ρ1 vs).set i (.im (en a))) S1 = some (r, ρ4, S1) ∧ fz ρ4 r = some (.im (en (h a)), ρ5)) :
    eLc it vs (gNm i) tYesS f ρ S = some (.ow (li (l.map h)), ρ1, S1) := by
  have key : ∀ l : List α, (∀ a ∈ l, ∃ r ρ4 ρ5, f ((inn ρ1 vs).set i (.im (en a))) S1 = some (r, ρ4, S1) ∧ fz ρ4 r = some (.im (en (h a)), ρ5)) → lcGo (gNm i) tYesS f (inn ρ1 vs) (l.map en) S1 = some ((l.map h).map en, S1) := by
    intro l
    induction l with
    | nil => intro _; rfl
    | cons a l ih =>
      intro H
      obtain ⟨r, ρ4, ρ5, e1, e2⟩ := H a (List.mem_cons_self ..)
      have ih' := ih fun b hb => H b (List.mem_cons_of_mem _ hb)
      rw [List.map_cons]
      unfold lcGo
      simp [e1, e2, ih']
  unfold eLc
  rw [h1, bindS]
  simp only []
  rw [if_pos (by rw [List.length_map]; exact hz), key l H]
  rfl
/-- l.append(e) -/
theorem app_ev {ρ ρ1 ρ2 : Rho} {S S1 : Src} {i : Nat} {f : SE} {r : Vl} {d0 : List PyData} {t : List α} {a : α} (h0 : ρ[i]? = some (.ow (.list d0))) (h1 : f ρ S = some (r, ρ1, S1)) (h2 : fz ρ1 r = some (.im (en a), ρ2)) (h3 : ρ2[i]? = some (.ow (li t))) (hz : t.length < sizeLine) :
    eOwn i oAppend (aCons f aNil) ρ S = some (.im .none, ρ2.set i (.ow (li (t ++ [a]))), S1) := by
  rw [eOwn_ap, h0]
  simp only [aCons_ap, h1, bindS, aNil_ap, fzs_cons, h2, fzs_nil, imsOf_cons, imsOf_nil, h3, li_eq, oAppend_li t a hz]
end
@[simp] theorem gIn_lit2 (x a b : Int) : gInS false (.int x) (.tuple [.int a, .int b]) = some (.im (.bool (decide (x = a) || decide (x = b)))) := by
  have := gIn_tu x [a, b]
  rw [show (tu [a, b]) = .tuple [.int a, .int b] from rfl, show en x = .int x from rfl] at this
  rw [this]
  simp
section
variable {α : Type} [DecidableEq α] [Enc α]
theorem gEq_liN (l : List α) (h : Enc.dp α + 1 ≤ 64 := by decide) : gEq (li l) (.list []) = some (.im (.bool (decide (l = [])))) := gEq_li l [] h
theorem gNe_liN (l : List α) (h : Enc.dp α + 1 ≤ 64 := by decide) : gNe (li l) (.list []) = some (.im (.bool (!decide (l = [])))) := gNe_li l [] h
theorem gNe_tuN (l : List α) (h : Enc.dp α + 1 ≤ 64 := by decide) : gNe (tu l) (.tuple []) = some (.im (.bool (!decide (l = [])))) := gNe_tu l [] h
theorem gEq_tuN (l : List α) (h : Enc.dp α + 1 ≤ 64 := by decide) : gEq (tu l) (.tuple []) = some (.im (.bool (decide (l = [])))) := gEq_tu l [] h
end
theorem imsOf_ims (ds : List PyData) : imsOf (ds.map Sl.im) = some ds := by
  induction ds with
  | nil => rfl
  | cons d ds ih => rw [List.map_cons, imsOf_cons, ih]; rfl
theorem fzs_ims (ρ : Rho) (ds : List PyData) (rs : List Vl) : fzs ρ (ds.map Vl.im ++ rs) = (fzs ρ rs >>= fun z => match z with | (ss, ρ2) => some (ds.map Sl.im ++ ss, ρ2)) := by
  induction ds with
  | nil =>
    show fzs ρ rs = _
    cases fzs ρ rs with
    | none => rfl
    | some z => rfl
  | cons d ds ih =>
    rw [List.map_cons, List.cons_append, fzs_cons, fz_im, bindS]
    show (fzs ρ (ds.map Vl.im ++ rs) >>= fun y => match y with | (ss, ρ2) => some (Sl.im d :: ss, ρ2)) = _
    rw [ih]
    cases fzs ρ rs with
    | none => rfl
    | some z => rfl
theorem imsOf_app (ds : List PyData) (ss : List Sl) : imsOf (ds.map Sl.im ++ ss) = (imsOf ss >>= fun es => some (ds ++ es)) := by
  induction ds with
  | nil =>
    show imsOf ss = _
    cases imsOf ss with
    | none => rfl
    | some z => rfl
  | cons d ds ih =>
    rw [List.map_cons, List.cons_append, imsOf_cons, ih]
    cases imsOf ss with
    | none => rfl
    | some z => rfl
section
variable {α : Type} [DecidableEq α] [Enc α] {f g : SE} {ρ ρ1 ρ2 ρ3 : Rho} {S S1 S2 : Src} {r r2 : Vl}
/-- ( *l, a) -/
theorem star1_ev {l : List α} {a : α} (hf : f ρ S = some (r, ρ1, S1)) (hd : datOf ρ1 r = some (tu l)) (hg : g ρ1 S1 = some (r2, ρ2, S2)) (h2 : fz ρ2 r2 = some (.im (en a), ρ3)) (hz : l.length < sizeLine) :
    eTup (aStar f (aCons g aNil)) ρ S = some (.im (tu (l ++ [a])), ρ3, S2) := by
  have e : aStar f (aCons g aNil) ρ S = some ((l.map en).map Vl.im ++ [r2], ρ2, S2) := by
    rw [aStar_ap, hf, bindS]
    show (datOf ρ1 r >>= _) = _
    rw [hd, bindS, items_tu, bindS, aCons_ap, hg, bindS]
    rfl
  have e2 : fzs ρ2 ((l.map en).map Vl.im ++ [r2]) = some ((l.map en).map Sl.im ++ [.im (en a)], ρ3) := by
    rw [fzs_ims, fzs_cons, h2]
    rfl
  have e3 : imsOf ((l.map en).map Sl.im ++ [.im (en a)]) = some ((l ++ [a]).map en) := by
    rw [imsOf_app, List.map_append]
    rfl
  rw [eTup_ap, e, bindS]
  show (fzs ρ2 ((l.map en).map Vl.im ++ [r2]) >>= _) = _
  rw [e2, bindS]
  show (imsOf ((l.map en).map Sl.im ++ [.im (en a)]) >>= _) = _
  rw [e3, bindS, if_pos (by rw [List.length_map, List.length_append]; simp; omega)]
  rfl
end
/-- x.m(..) -/
theorem own_ev {ρ ρ1 ρ2 : Rho} {S S1 : Src} {i : Nat} {g : List PyData → List PyData → Option (List PyData × PyData)} {a : SA} {d0 ds l' es : List PyData} {r : PyData} {rs : List Vl} {ss : List Sl}
    (h0 : ρ[i]? = some (.ow (.list d0))) (h1 : a ρ S = some (rs, ρ1, S1)) (h2 : fzs ρ1 rs = some (ss, ρ2)) (h3 : imsOf ss = some es) (h4 : ρ2[i]? = some (.ow (.list ds))) (h5 : g ds es = some (l', r)) : eOwn i g a ρ S = some (.im r, ρ2.set i (.ow (.list l')), S1) := by
  rw [eOwn_ap, h0]
  simp only [h1, bindS, h2, h3, h4, h5]
section
variable {α : Type} [DecidableEq α] [Enc α]
theorem cut_take (l : List α) (k : Nat) : cutD (l.map en) none (some (k : Int)) = (l.take k).map en := by
  unfold cutD
  rw [HT.sIx_none, HT.sIx_nat, List.drop_zero, Nat.sub_zero, List.length_map, ← List.map_take]
  congr 1
  by_cases h : k ≤ l.length
  · rw [Nat.min_eq_left h]
  · rw [Nat.min_eq_right (by omega), List.take_length, List.take_of_length_le (by omega)]
theorem gSl_li (l : List α) (k : Nat) : gSl (li l) none (some (k : Int)) = some (.ow (li (l.take k))) := by
  show some (Rs.ow (.list (cutD (l.map en) none (some (k : Int))))) = _
  rw [cut_take]; rfl
theorem gSl_tu (l : List α) (k : Nat) : gSl (tu l) none (some (k : Int)) = some (.im (tu (l.take k))) := by
  show some (Rs.im (.tuple (cutD (l.map en) none (some (k : Int))))) = _
  rw [cut_take]; rfl
end
end Dn

set_option Elab.async false
set_option linter.all false
set_option maxRecDepth 100000
set_option maxHeartbeats 4000000
/-! SrcP: what is drawn. -/
namespace Dn
open PySem PySem.Spec PyProof.Rows L2

def SOk (S : Src) : Prop := S.cells.length ≤ 63
theorem srcOf_ok {ns : List Int} (h : ns.length ≤ 63) : SOk (srcOf ns) := by
  unfold SOk srcOf
  simpa using h
def pickW : SS := sWh (sAnd (ofE (eBin gGt (eVar 1) (eC (.int 1)))) (sAnd (ofE (eBin gLt (eSg 0 .left) (eC (.int 2)))) (ofE (eBin gGt (eSlen 0) (eC (.int 0)))))) (sSput 0 .left (eSpop 0))
def semPick : SS := sSeq pickW (sSeq (sSet 2 (eSg 0 .left)) (sSeq (sIf (sOr (ofE (eBin gLt (eVar 1) (eC (.int 2)))) (ofE (eBin gGt (eVar 2) (eC (.int 1))))) (sSeq (sSput 0 .left (eBin gDiv (eVar 2) (eB (g2 gMax2) (aCons (eC (.int 1)) (aCons (eVar 1) (aNil)))))) (sRet (eBin gMod (eB (g1 gInt) (aCons (eVar 2) (aNil))) (eB (g2 gMax2) (aCons (eC (.int 1)) (aCons (eVar 1) (aNil))))))) (sNil)) (sSeq (sSput 0 .turn (eBin gAdd (eSg 0 .turn) (eC (.int 1)))) (sSeq (sSet 3 (eFz (eBin gMod (eB (g1 gInt) (aCons (eBin gAdd (eSg 0 .mixed) (eBin gMul (eSg 0 .turn) (eC (.int 104729)))) (aNil))) (eC (.int 998244353))))) (sSeq (sSet 3 (eFz (eBin gMod (eB (g1 gInt) (aCons (eBin gAdd (eBin gMul (eVar 3) (eVar 3)) (eBin gMul (eSg 0 .turn) (eC (.int 17)))) (aNil))) (eC (.int 2147483647))))) (sSeq (sSput 0 .mixed (eVar 3)) (sRet (eBin gMod (eB (g1 gInt) (aCons (eBin gDiv (eVar 3) (eC (.int 16))) (aNil))) (eVar 1)))))))))
def semOf (m : FS) : SS := sRet (eBin gIx (eVar 1) (eCall 2 m (aCons (eVar 0) (aCons (eB (g1 gLen) (aCons (eVar 1) (aNil))) (aNil)))))
def mixC (m : FS) : SE := eLcO (itR (aCons (eB (g1 gLen) (aCons (eVar 2) (aNil))) (aNil))) [3] (gNm 3) (tYesS) (eOwn 2 oPopAt (aCons (eCall 2 m (aCons (eVar 0) (aCons (eB (g1 gLen) (aCons (eVar 2) (aNil))) (aNil)))) (aNil)))
def semMix (m : FS) : SS := sSeq (sSet 2 (eB (g1 gList) (aCons (eVar 1) (aNil)))) (sRet (mixC m))

def popC (m : Int) (S : Src) : Bool := decide (1 < m) && (decide (S.left < 2) && decide (0 < S.cells.length))
def popS (S : Src) : Src := { S with left := S.cells.getLastD 0, cells := S.cells.dropLast }
theorem pickW_ev (m : Int) (S : Src) (h : SOk S) : pickW [.so, .im (.int m), .un, .un] S = some (.nx, [.so, .im (.int m), .un, .un], loopF (popC m) popS 63 S) ∧ SOk (loopF (popC m) popS 63 S) := by
  have key := whT (τ := Src) (t := sAnd (ofE (eBin gGt (eVar 1) (eC (.int 1)))) (sAnd (ofE (eBin gLt (eSg 0 .left) (eC (.int 2)))) (ofE (eBin gGt (eSlen 0) (eC (.int 0)))))) (b := sSput 0 .left (eSpop 0))
    (fun _ => [.so, .im (.int m), .un, .un]) id (popC m) popS (fun n S => S.cells.length ≤ n ∧ SOk S) (fun n S p => by
      by_cases c1 : 1 < m
      · by_cases c2 : S.left < 2
        · simp [popC, c1, c2, Fd.get]
        · simp [popC, c1, c2, Fd.get]
      · simp [popC, c1]) (fun n S p hc => by
      obtain ⟨p1, p2⟩ := p
      unfold popC at hc
      simp only [Bool.and_eq_true, decide_eq_true_eq] at hc
      obtain ⟨c, hc'⟩ : ∃ c, S.cells.getLast? = some c := by
        cases e : S.cells with
        | nil => rw [e] at hc; simp at hc
        | cons x r => exact ⟨_, List.getLast?_eq_some_getLast (List.cons_ne_nil x r)⟩
      refine ⟨n - 1, by omega, ⟨by show S.cells.dropLast.length ≤ _; rw [List.length_dropLast]; omega, by show S.cells.dropLast.length ≤ 63; rw [List.length_dropLast]; have : S.cells.length ≤ 63 := p2; omega⟩, .inl ?_⟩
      have e : S.cells.getLastD 0 = c := by rw [List.getLastD_eq_getLast?, hc']; rfl
      simp [hc', popS, Fd.put, e]) 63 S ⟨h, h⟩
  refine ⟨?_, key.2.2.choose_spec.2⟩
  exact sWh_T key.1 (by unfold fuel; omega)
/-- a draw below many -/
theorem pick_ev (S : Src) (many : Nat) (h : many ≤ 1048576) (hS : SOk S) : ∃ (r : Nat) (S' : Src), fnD 4 semPick [.so, .im (.int many)] S = some (.int r, S') ∧ r < max 1 many ∧ SOk S' := by
  obtain ⟨e1, h1⟩ := pickW_ev many S hS
  generalize loopF (popC many) popS 63 S = S1 at e1 h1
  have mx : (if (many : Int) > 1 then (many : Int) else 1) = ((max 1 many : Nat) : Int) := by
    split <;> omega
  have e2 : sSet 2 (eSg 0 .left) [.so, .im (.int many), .un, .un] S1 = some (.nx, [.so, .im (.int many), .im (.int S1.left), .un], S1) := by simp [Fd.get]
  have pos : (0 : Int) < ((max 1 many : Nat) : Int) := by omega
  by_cases c : (many : Int) < 2 ∨ S1.left > 1
  · refine ⟨(S1.left.fmod ((max 1 many : Nat) : Int)).toNat, { S1 with left := S1.left.fdiv ((max 1 many : Nat) : Int) }, ?_, ?_, h1⟩
    · refine fnD_rt (ρ1 := [.so, .im (.int many), .im (.int S1.left), .un]) ?_
      show semPick [.so, .im (.int many), .un, .un] S = _
      unfold semPick
      rw [seqN e1, seqN e2]
      have dv := gDiv_int (i := S1.left) (j := ((max 1 many : Nat) : Int)) ⟨by omega, by omega⟩
      have md := gMod_int (i := S1.left) (j := ((max 1 many : Nat) : Int)) (by omega)
      have nn : ((S1.left.fmod ((max 1 many : Nat) : Int)).toNat : Int) = S1.left.fmod ((max 1 many : Nat) : Int) := Int.toNat_of_nonneg (by rw [Int.fmod_eq_emod_of_nonneg _ (by omega)]; exact Int.emod_nonneg _ (by omega))
      have br : sIf (sOr (ofE (eBin gLt (eVar 1) (eC (.int 2)))) (ofE (eBin gGt (eVar 2) (eC (.int 1))))) (sSeq (sSput 0 .left (eBin gDiv (eVar 2) (eB (g2 gMax2) (aCons (eC (.int 1)) (aCons (eVar 1) (aNil)))))) (sRet (eBin gMod (eB (g1 gInt) (aCons (eVar 2) (aNil))) (eB (g2 gMax2) (aCons (eC (.int 1)) (aCons (eVar 1) (aNil))))))) (sNil) [.so, .im (.int many), .im (.int S1.left), .un] S1 = some (.rt (.int ((S1.left.fmod ((max 1 many : Nat) : Int)).toNat : Nat)), [.so, .im (.int many), .im (.int S1.left), .un], { S1 with left := S1.left.fdiv ((max 1 many : Nat) : Int) }) := by
        rw [nn]
        by_cases c1 : (many : Int) < 2
        · simp [c1, mx, dv, md, Fd.put]
        · have c2 : 1 < S1.left := by omega
          simp [c1, c2, mx, dv, md, Fd.put]
      exact seqR br
    · rw [Int.fmod_eq_emod_of_nonneg _ (by omega)]
      have := Int.emod_lt_of_pos S1.left pos
      have := Int.emod_nonneg S1.left (show ((max 1 many : Nat) : Int) ≠ 0 by omega)
      omega
  · have c1 : ¬ (many : Int) < 2 := fun z => c (.inl z)
    have c2 : ¬ 1 < S1.left := fun z => c (.inr z)
    have m1 := gMul_int (i := S1.turn + 1) (j := 104729) (.inr ⟨by omega, by omega⟩)
    have m2 := gMod_int (i := S1.mixed + (S1.turn + 1) * 104729) (j := 998244353) (by omega)
    have b1 : 0 ≤ (S1.mixed + (S1.turn + 1) * 104729).fmod 998244353 ∧ (S1.mixed + (S1.turn + 1) * 104729).fmod 998244353 < 998244353 := by
      rw [Int.fmod_eq_emod_of_nonneg _ (by omega)]
      exact ⟨Int.emod_nonneg _ (by omega), Int.emod_lt_of_pos _ (by omega)⟩
    generalize hx : (S1.mixed + (S1.turn + 1) * 104729).fmod 998244353 = x at m2 b1
    have m3 := gMul_int (i := x) (j := x) (.inl ⟨by omega, by omega⟩)
    have m4 := gMul_int (i := S1.turn + 1) (j := 17) (.inr ⟨by omega, by omega⟩)
    have m5 := gMod_int (i := x * x + (S1.turn + 1) * 17) (j := 2147483647) (by omega)
    generalize hy : (x * x + (S1.turn + 1) * 17).fmod 2147483647 = y at m5
    have m6 := gDiv_int (i := y) (j := 16) ⟨by omega, by omega⟩
    have m7 := gMod_int (i := y.fdiv 16) (j := (many : Int)) (by omega)
    have nn : (((y.fdiv 16).fmod (many : Int)).toNat : Int) = (y.fdiv 16).fmod (many : Int) := Int.toNat_of_nonneg (by rw [Int.fmod_eq_emod_of_nonneg _ (by omega)]; exact Int.emod_nonneg _ (by omega))
    refine ⟨((y.fdiv 16).fmod (many : Int)).toNat, { S1 with turn := S1.turn + 1, mixed := y }, ?_, ?_, h1⟩
    · refine fnD_rt (ρ1 := [.so, .im (.int many), .im (.int S1.left), .im (.int y)]) ?_
      show semPick [.so, .im (.int many), .un, .un] S = _
      unfold semPick
      rw [seqN e1, seqN e2, nn]
      simp [c1, c2, Fd.get, Fd.put, m1, m2, m3, m4, m5, m6, m7]
    · rw [Int.fmod_eq_emod_of_nonneg _ (by omega)]
      have := Int.emod_lt_of_pos (y.fdiv 16) (show (0 : Int) < many by omega)
      have := Int.emod_nonneg (y.fdiv 16) (show (many : Int) ≠ 0 by omega)
      omega

/-- what is drawn below many, and the source behind it -/
noncomputable def pickR (S : Src) (many : Nat) : Nat × Src := open Classical in if h : many ≤ 1048576 ∧ SOk S then ⟨(pick_ev S many h.1 h.2).choose, (pick_ev S many h.1 h.2).choose_spec.choose⟩ else (0, S)
def e_pick (a : Nat) : List Sl := [.so, .im (.int a)]
noncomputable def mm_pick : FS := FSrc e_pick (fun a S => a ≤ 1048576 ∧ SOk S) (fun a S => (.int (pickR S a).1, (pickR S a).2))
theorem pickR_sp {S : Src} {many : Nat} (h : many ≤ 1048576) (hS : SOk S) : fnD 4 semPick [.so, .im (.int many)] S = some (.int (pickR S many).1, (pickR S many).2) ∧ (pickR S many).1 < max 1 many ∧ SOk (pickR S many).2 := by
  unfold pickR
  rw [dif_pos ⟨h, hS⟩]
  exact (pick_ev S many h hS).choose_spec.choose_spec
theorem pick_sem (a : Nat) (S : Src) (h : a ≤ 1048576 ∧ SOk S) : fnD 4 semPick (e_pick a) S = some (.int (pickR S a).1, (pickR S a).2) := (pickR_sp h.1 h.2).1
theorem pick_at {S : Src} {many : Nat} (h : many ≤ 1048576) (hS : SOk S) : mm_pick [.so, .im (.int many)] S = some (.int (pickR S many).1, (pickR S many).2) :=
  FSrc_at (enc := e_pick) (a := many) (fun a b h => by
    unfold e_pick at h
    simp only [List.cons.injEq, Sl.im.injEq, PyData.int.injEq] at h
    rw [show a = b by omega]) ⟨h, hS⟩
theorem pick_lt {S : Src} {many : Nat} (h : many ≤ 1048576) (hS : SOk S) : (pickR S many).1 < max 1 many := (pickR_sp h hS).2.1
theorem pick_ok {S : Src} {many : Nat} (h : many ≤ 1048576) (hS : SOk S) : SOk (pickR S many).2 := (pickR_sp h hS).2.2

/-! ### one of some -/
/-- a sequence, a list or a tuple -/
def seqE (k : Bool) (l : List PyData) : PyData := if k then .list l else .tuple l
theorem seqE_inj {k k' : Bool} {l l' : List PyData} (h : seqE k l = seqE k' l') : l = l' := by
  cases k <;> cases k' <;> simp [seqE] at h <;> exact h
def e_of (a : Bool × List PyData) : List Sl := [.so, .im (seqE a.1 a.2)]
noncomputable def ofR (S : Src) (l : List PyData) : PyData × Src := (l.getD (pickR S l.length).1 .none, (pickR S l.length).2)
noncomputable def mm_of : FS := FSrc e_of (fun a S => 0 < a.2.length ∧ a.2.length ≤ 1000 ∧ SOk S) (fun a S => ofR S a.2)
theorem of_sem (a : Bool × List PyData) (S : Src) (h : 0 < a.2.length ∧ a.2.length ≤ 1000 ∧ SOk S) : fnD 2 (semOf mm_pick) (e_of a) S = some (ofR S a.2) := by
  obtain ⟨k, l⟩ := a
  obtain ⟨h0, h1, hS⟩ := h
  simp only at h0 h1
  have e := pick_at (S := S) (many := l.length) (by omega) hS
  have lt := pick_lt (S := S) (many := l.length) (by omega) hS
  have hi : (pickR S l.length).1 < l.length := by omega
  have hl : gLen (seqE k l) = some (.im (.int l.length)) := by cases k <;> rfl
  have hx : gIx (seqE k l) (.int ((pickR S l.length).1 : Nat)) = some (.im (l.getD (pickR S l.length).1 .none)) := by
    have q : l[(pickR S l.length).1]? = some (l.getD (pickR S l.length).1 .none) := by
      rw [List.getD_eq_getElem?_getD, List.getElem?_eq_getElem hi]; rfl
    cases k with
    | true => show (atI l _).map _ = _; rw [atI_nat q]; rfl
    | false => show (atI l _).map _ = _; rw [atI_nat q]; rfl
  refine fnD_rt (ρ1 := e_of (k, l)) ?_
  show semOf mm_pick [.so, .im (seqE k l)] S = _
  unfold semOf
  simp [hl, e, hx, e_of, ofR]
theorem of_at {S : Src} {k : Bool} {l : List PyData} (h0 : 0 < l.length) (h1 : l.length ≤ 1000) (hS : SOk S) : mm_of [.so, .im (seqE k l)] S = some (ofR S l) :=
  FSrc_at (enc := e_of) (a := (k, l)) (fun a b h => by
    unfold e_of at h
    simp only [List.cons.injEq, Sl.im.injEq] at h
    rw [seqE_inj h.2.1]) ⟨h0, h1, hS⟩
theorem ofR_mem {S : Src} {l : List PyData} (h0 : 0 < l.length) (h1 : l.length ≤ 1000) (hS : SOk S) : (ofR S l).1 ∈ l ∧ SOk (ofR S l).2 := by
  have lt := pick_lt (S := S) (many := l.length) (by omega) hS
  have hi : (pickR S l.length).1 < l.length := by omega
  refine ⟨?_, pick_ok (by omega) hS⟩
  show l.getD _ .none ∈ l
  rw [List.getD_eq_getElem?_getD, List.getElem?_eq_getElem hi]
  exact List.getElem_mem hi

/-! ### in a drawn order -/
theorem perm_erase {α : Type} : ∀ (l : List α) (i : Nat) (h : i < l.length), (l[i] :: l.eraseIdx i).Perm l
  | a :: l, 0, h => List.Perm.refl _
  | a :: l, i + 1, h => by
    have ih := perm_erase l i (by simpa using h)
    show (l[i]'(by simpa using h) :: a :: l.eraseIdx i).Perm (a :: l)
    exact (List.Perm.swap _ _ _).trans (ih.cons a)
theorem popAt_ev {l : List PyData} {k : Nat} (hk : k < l.length) (hl : l.length ≤ 1000) : oPopAt l [.int k] = some (l.eraseIdx k, l.getD k .none) := by
  have q : l[k]? = some (l.getD k .none) := by
    rw [List.getD_eq_getElem?_getD, List.getElem?_eq_getElem hk]; rfl
  have q2 : seqIndex? (k : Int) l.length = some k := PySem.StrLaws.seqIndex_nonneg (by omega) (by omega)
  simp only [oPopAt]
  rw [if_pos (by constructor <;> omega), q2]
  simp only [q]
noncomputable def mixR : Nat → Src → List PyData → List PyData × Src
  | 0, S, _ => ([], S)
  | n + 1, S, l => let z := pickR S l.length; let r := mixR n z.2 (l.eraseIdx z.1); (l.getD z.1 .none :: r.1, r.2)
theorem mixR_ok : ∀ (n : Nat) (S : Src) (l : List PyData), l.length = n → n ≤ 1000 → SOk S → (mixR n S l).1.Perm l ∧ SOk (mixR n S l).2
  | 0, S, l, h, _, hS => by
    have : l = [] := List.eq_nil_of_length_eq_zero h
    subst this
    exact ⟨List.Perm.refl _, hS⟩
  | n + 1, S, l, h, hn, hS => by
    have lt := pick_lt (S := S) (many := l.length) (by omega) hS
    have hi : (pickR S l.length).1 < l.length := by omega
    have ih := mixR_ok n (pickR S l.length).2 (l.eraseIdx (pickR S l.length).1) (by rw [List.length_eraseIdx_of_lt hi]; omega) (by omega) (pick_ok (by omega) hS)
    refine ⟨?_, ih.2⟩
    show (l.getD (pickR S l.length).1 .none :: (mixR n (pickR S l.length).2 (l.eraseIdx (pickR S l.length).1)).1).Perm l
    rw [List.getD_eq_getElem?_getD, List.getElem?_eq_getElem hi]
    refine (List.Perm.cons _ ih.1).trans ?_
    exact perm_erase l _ hi
def mixB (m : FS) : SE := eOwn 2 oPopAt (aCons (eCall 2 m (aCons (eVar 0) (aCons (eB (g1 gLen) (aCons (eVar 2) (aNil))) (aNil)))) (aNil))
theorem mixB_ev {th d : PyData} {S : Src} {l : List PyData} (hi : (pickR S l.length).1 < l.length) (hz : l.length ≤ 1000) (hS : SOk S) : mixB mm_pick [.so, .im th, .ow (.list l), .im d] S = some (.im (l.getD (pickR S l.length).1 .none), [.so, .im th, .ow (.list (l.eraseIdx (pickR S l.length).1)), .im d], (pickR S l.length).2) := by
  have e := pick_at (S := S) (many := l.length) (by omega) hS
  have hl : gLen (.list l) = some (.im (.int l.length)) := rfl
  have hp := popAt_ev hi hz
  have ha : aCons (eCall 2 mm_pick (aCons (eVar 0) (aCons (eB (g1 gLen) (aCons (eVar 2) (aNil))) (aNil)))) (aNil) [.so, .im th, .ow (.list l), .im d] S = some ([.im (.int ((pickR S l.length).1 : Nat))], [.so, .im th, .ow (.list l), .im d], (pickR S l.length).2) := by simp [hl, e]
  exact own_ev rfl ha rfl rfl rfl hp
theorem mixGo {th : PyData} (ds : List PyData) : ∀ (S : Src) (l : List PyData), l.length = ds.length → ds.length ≤ 1000 → SOk S →
    lcGoO (gNm 3) tYesS (mixB mm_pick) [3] ds [.so, .im th, .ow (.list l), .un] S = some (mixR ds.length S l) := by
  induction ds with
  | nil =>
    intro S l h _ _
    have : l = [] := List.eq_nil_of_length_eq_zero h
    subst this
    rfl
  | cons d ds ihd =>
    intro S l h hn hS
    have hz : l.length ≤ 1000 := by omega
    have e := pick_at (S := S) (many := l.length) (by omega) hS
    have lt := pick_lt (S := S) (many := l.length) (by omega) hS
    rw [List.length_cons] at h hn
    have hi : (pickR S l.length).1 < l.length := by omega
    have ih := ihd (pickR S l.length).2 (l.eraseIdx (pickR S l.length).1) (by rw [List.length_eraseIdx_of_lt hi]; omega) (by omega) (pick_ok (by omega) hS)
    have ev := mixB_ev (th := th) (d := d) hi hz hS
    unfold lcGoO
    rw [gNm_ap, bindS]
    have st : ([.so, .im th, .ow (.list l), .un] : Rho).set 3 (.im d) = [.so, .im th, .ow (.list l), .im d] := rfl
    rw [st]
    show (mixB mm_pick [.so, .im th, .ow (.list l), .im d] S >>= _) = _
    rw [ev, bindS]
    show (lcGoO (gNm 3) tYesS (mixB mm_pick) [3] ds [.so, .im th, .ow (.list (l.eraseIdx (pickR S l.length).1)), .un] (pickR S l.length).2 >>= _) = _
    rw [ih]
    have mr : mixR (d :: ds).length S l = (l.getD (pickR S l.length).1 .none :: (mixR ds.length (pickR S l.length).2 (l.eraseIdx (pickR S l.length).1)).1, (mixR ds.length (pickR S l.length).2 (l.eraseIdx (pickR S l.length).1)).2) := by
      rw [List.length_cons, mixR]
    rw [mr, bindS]
theorem perm_map {α : Type} [DecidableEq α] [Enc α] : ∀ {ds : List PyData} {l : List α}, ds.Perm (l.map en) → ∃ m : List α, ds = m.map en ∧ m.Perm l := by
  intro ds l h
  have : ∀ d ∈ ds, ∃ a : α, d = en a := fun d hd => by
    obtain ⟨a, _, rfl⟩ := List.mem_map.mp (h.mem_iff.mp hd)
    exact ⟨a, rfl⟩
  have q : ∀ ds : List PyData, (∀ d ∈ ds, ∃ a : α, d = en a) → ∃ m : List α, ds = m.map en := by
    intro ds
    induction ds with
    | nil => intro _; exact ⟨[], rfl⟩
    | cons d ds ih =>
      intro h
      obtain ⟨a, rfl⟩ := h d (List.mem_cons_self ..)
      obtain ⟨m, rfl⟩ := ih fun e he => h e (List.mem_cons_of_mem _ he)
      exact ⟨a :: m, rfl⟩
  obtain ⟨m, rfl⟩ := q ds this
  refine ⟨m, rfl, ?_⟩
  let dec : PyData → Option α := fun d => open Classical in if h : ∃ a : α, d = en a then some h.choose else none
  have hd : ∀ a : α, dec (en a) = some a := fun a => by
    have h : ∃ b : α, (en a : PyData) = en b := ⟨a, rfl⟩
    show (open Classical in if h : ∃ b : α, (en a : PyData) = en b then some h.choose else none) = _
    rw [dif_pos h, en_inj h.choose_spec.symm]
  have fm : ∀ l : List α, (l.map en).filterMap dec = l := fun l => by
    induction l with
    | nil => rfl
    | cons a l ih => rw [List.map_cons, List.filterMap_cons, hd]; simp only [ih]
  have := h.filterMap dec
  rw [fm, fm] at this
  exact this
noncomputable def mixA (S : Src) (l : List PyData) : PyData × Src := (.list (mixR l.length S l).1, (mixR l.length S l).2)
noncomputable def mm_mixed : FS := FSrc e_of (fun a S => a.2.length ≤ 1000 ∧ SOk S) (fun a S => mixA S a.2)
theorem mix_sem (a : Bool × List PyData) (S : Src) (h : a.2.length ≤ 1000 ∧ SOk S) : fnD 4 (semMix mm_pick) (e_of a) S = some (mixA S a.2) := by
  obtain ⟨k, l⟩ := a
  obtain ⟨h1, hS⟩ := h
  simp only at h1
  have hl : gList (seqE k l) = some (.ow (.list l)) := by cases k <;> rfl
  have e1 : sSet 2 (eB (g1 gList) (aCons (eVar 1) (aNil))) [.so, .im (seqE k l), .un, .un] S = some (.nx, [.so, .im (seqE k l), .ow (.list l), .un], S) := by simp [hl]
  have go := mixGo (th := seqE k l) ((rng l.length).map en) S l (by rw [List.length_map, rng_len]) (by rw [List.length_map, rng_len]; exact h1) hS
  rw [List.length_map, rng_len] at go
  have hl2 : gLen (.list l) = some (.im (.int l.length)) := rfl
  have e2 : mixC mm_pick [.so, .im (seqE k l), .ow (.list l), .un] S = some (.ow (.list (mixR l.length S l).1), [.so, .im (seqE k l), .un, .un], (mixR l.length S l).2) := by
    unfold mixC eLcO
    have it : itR (aCons (eB (g1 gLen) (aCons (eVar 2) (aNil))) (aNil)) [.so, .im (seqE k l), .ow (.list l), .un] S = some ((rng l.length).map en, [.so, .im (seqE k l), .ow (.list l), .un], S) := by
      simp [hl2, rgOf1 (show l.length ≤ 16777216 by omega)]
    rw [it, bindS]
    simp only []
    rw [if_pos (by rw [List.length_map, rng_len, sizeLine_eq]; omega)]
    show (lcGoO (gNm 3) tYesS (mixB mm_pick) [3] ((rng l.length).map en) [.so, .im (seqE k l), .ow (.list l), .un] S >>= _) = _
    rw [go]
    rfl
  refine fnD_rt (ρ1 := [.so, .im (seqE k l), .un, .un]) ?_
  show semMix mm_pick [.so, .im (seqE k l), .un, .un] S = _
  unfold semMix
  rw [seqN e1, sRet_ap, e2]
  rfl
theorem mix_at {S : Src} {k : Bool} {l : List PyData} (h1 : l.length ≤ 1000) (hS : SOk S) : mm_mixed [.so, .im (seqE k l)] S = some (mixA S l) :=
  FSrc_at (enc := e_of) (a := (k, l)) (fun a b h => by
    unfold e_of at h
    simp only [List.cons.injEq, Sl.im.injEq] at h
    rw [seqE_inj h.2.1]) ⟨h1, hS⟩
/-- typed: the list in a drawn order -/
theorem mixA_li {α : Type} [DecidableEq α] [Enc α] {S : Src} {l : List α} (h1 : l.length ≤ 1000) (hS : SOk S) : ∃ (m : List α) (S' : Src), mixA S (l.map en) = (li m, S') ∧ m.Perm l ∧ SOk S' := by
  have h := mixR_ok (l.map en).length S (l.map en) rfl (by rw [List.length_map]; exact h1) hS
  obtain ⟨m, e, p⟩ := perm_map h.1
  exact ⟨m, _, by unfold mixA; rw [e]; rfl, p, h.2⟩
end Dn

set_option Elab.async false
set_option linter.all false
set_option maxRecDepth 100000
set_option maxHeartbeats 4000000
/-! LotP: all lots. -/
namespace Dn
open PySem PySem.Spec PyProof.Rows L2 PySem.SeqAt PySem.W

def lotsC : SE := eLc (itE (eVar 1)) [3] (gNm 3) (tYesS) (eBin gAdd (eVar 3) (eTup (aCons (eVar 2) (aNil))))
def lotsB : SS := (sSet 1 (eFz (eBin gAdd (eVar 1) ((lotsC)))))
def lotsW : SS := sFor (itR (aCons (eVar 0) (aNil))) (gNm 2) lotsB
def semLots : SS := sSeq (sSet 1 (eFz (eLst (aCons (eTup (aNil)) (aNil))))) (sSeq ((lotsW)) (sRet (eB (g1 gSort) (aCons (eVar 1) (aNil)))))

/-- all lots of a list of things, made as the text makes them -/
def snocT (x : Int) (a : Tp Int) : Tp Int := List.append a [x]
def lotsS (found : List (Tp Int)) (x : Int) : List (Tp Int) := found ++ found.map (snocT x)
def lotsU (l : List Int) : List (Tp Int) := l.foldl lotsS [[]]
theorem lotsS_len (f : List (Tp Int)) (x : Int) : (lotsS f x).length = f.length * 2 := by
  unfold lotsS
  rw [List.length_append, List.length_map]
  omega
theorem snocT_len (x : Int) (a : Tp Int) : List.length (snocT x a) = List.length a + 1 := by
  show List.length (List.append a [x]) = _
  exact List.length_append
def lotsK (m : Nat) (t : List (Tp Int) × Sl) : Rho := [.im (.int m), .im (li t.1), t.2, .un]
theorem lotsU_len (l : List Int) : ∀ f : List (Tp Int), (l.foldl lotsS f).length = f.length * 2 ^ l.length := by
  induction l with
  | nil => intro f; simp
  | cons x l ih =>
    intro f
    rw [List.foldl_cons, ih, lotsS_len, List.length_cons, Nat.pow_succ, Nat.mul_comm (2 ^ l.length) 2, ← Nat.mul_assoc]
/-- what a lot made is: things of the list, in their order -/
theorem lotsU_mem {l : List Int} {lot : Tp Int} (h : lot ∈ lotsU l) : List.Sublist lot l := by
  have key : ∀ (l : List Int) (p : List Int) (f : List (Tp Int)), (∀ a ∈ f, List.Sublist a p) → ∀ a ∈ l.foldl lotsS f, List.Sublist a (p ++ l) := by
    intro l
    induction l with
    | nil => intro p f h a ha; rw [List.append_nil]; exact h a ha
    | cons x l ih =>
      intro p f h a ha
      rw [List.foldl_cons] at ha
      have := ih (p ++ [x]) _ (fun b hb => by
        rcases List.mem_append.mp hb with hb | hb
        · exact (h b hb).trans (List.sublist_append_left _ _)
        · obtain ⟨c, hc, rfl⟩ := List.mem_map.mp hb
          exact (h c hc).append (List.Sublist.refl _)) a ha
      rw [List.append_assoc] at this
      exact this
  have := key l [] [[]] (fun a ha => by rw [List.mem_singleton.mp ha]; exact List.Sublist.refl _) lot h
  simpa using this
theorem alike_lots (a b : Tp Int) : alike (en a) (en b) = true := by
  show alike (.tuple (List.map en a)) (.tuple (List.map en b)) = true
  rw [alike]
  exact PySem.W.alike_ints a b
theorem sort_lots {l : List (Tp Int)} (h : l.length ≤ sizeLine) : ∃ m : List (Tp Int), gSort (li l) = some (.ow (li m)) ∧ m.Perm l := by
  have ok : SortOk (l.map en) := by
    refine ⟨by rw [List.length_map]; exact h, ?_, ?_, Nat.le_trans (depAll l) (by decide)⟩
    · unfold alikeB
      rw [List.all_eq_true]
      intro d hd
      obtain ⟨a, _, rfl⟩ := List.mem_map.mp hd
      rw [List.all_eq_true]
      intro e he
      obtain ⟨b, _, rfl⟩ := List.mem_map.mp he
      exact alike_lots a b
    · unfold sortB
      rw [Bool.or_eq_true]
      left
      rw [List.all_eq_true]
      intro d hd
      obtain ⟨a, _, rfl⟩ := List.mem_map.mp hd
      rfl
  obtain ⟨m, e, p⟩ := perm_map (List.mergeSort_perm (l.map en) leD)
  refine ⟨m, ?_, p⟩
  show (if SortOk (l.map en) then some (Rs.ow (.list ((l.map en).mergeSort leD))) else none) = _
  rw [if_pos ok, e]
  rfl
theorem lots_c1 {m : Nat} {l : List (Tp Int)} {x : Int} {S : Src} (hz : l.length ≤ 100000) (hl : ∀ a ∈ l, List.length a ≤ 1000) : lotsC (lotsK m (l, .im (.int x))) S = some (.ow (li (l.map (snocT x))), lotsK m (l, .im (.int x)), S) := by
  unfold lotsC
  refine lc_evM (α := Tp Int) (β := Tp Int) (l := l) (S1 := S) (ρ1 := lotsK m (l, .im (.int x))) (snocT x) (by simp [lotsK]) (by rw [sizeLine_eq]; omega) fun a ha => ?_
  have e : gAdd (en a) (.tuple [.int x]) = some (.im (en (α := Tp Int) (snocT x a))) := gAdd_tu (α := Int) a [x] (by have := hl a ha; rw [sizeLine_eq]; simp; omega)
  refine ⟨.im (en (α := Tp Int) (snocT x a)), [.im (.int m), .im (li l), .im (.int x), .im (en a)], [.im (.int m), .im (li l), .im (.int x), .im (en a)], ?_, rfl⟩
  simp [lotsK, sizeLine_eq, e]
theorem lots_sem {m : Nat} {S : Src} (h : m ≤ 10) : ∃ L : List (Tp Int), fnD 4 semLots [.im (.int m)] S = some (li L, S) ∧ L.Perm (lotsU (rng m)) := by
  have key := forT (τ := List (Tp Int) × Sl) (α := Int) (g := gNm 2) (b := lotsB) en (lotsK m) (fun _ => S) (fun t x => (lotsS t.1 x, .im (.int x))) (fun t l => t.1.length * 2 ^ l.length ≤ 1024 ∧ ∀ a ∈ t.1, List.length a + l.length ≤ 10)
    (fun x l t p => by
      obtain ⟨t, s2⟩ := t
      obtain ⟨p1, p2⟩ := p
      simp only [List.length_cons, Nat.pow_succ] at p1 p2
      have pw : 0 < 2 ^ l.length := Nat.two_pow_pos _
      have tl : t.length * 2 ≤ 1024 := by
        refine Nat.le_trans ?_ p1
        rw [Nat.mul_comm (2 ^ l.length) 2, ← Nat.mul_assoc]
        exact Nat.le_mul_of_pos_right _ pw
      refine ⟨lotsK m (t, .im (.int x)), rfl, .inl ?_, ?_, ?_⟩
      · have c := lots_c1 (m := m) (l := t) (x := x) (S := S) (by omega) (fun a ha => by have := p2 a ha; omega)
        simp only [lotsK] at c
        have e := gAdd_li (α := Tp Int) t (t.map (snocT x)) (by rw [List.length_map, sizeLine_eq]; omega)
        unfold lotsB
        simp [lotsK, c, e, lotsS]
      · show (lotsS t x).length * 2 ^ l.length ≤ 1024
        rw [lotsS_len, Nat.mul_assoc, Nat.mul_comm 2]
        exact p1
      · intro a ha
        rcases List.mem_append.mp ha with ha | ha
        · have := p2 a ha; omega
        · obtain ⟨b, hb, rfl⟩ := List.mem_map.mp ha
          have := p2 b hb
          rw [snocT_len]; omega) (rng m) ([[]], .un) ⟨by show 1 * 2 ^ (rng m).length ≤ 1024; rw [rng_len, Nat.one_mul]; exact Nat.le_trans (Nat.pow_le_pow_right (by omega) h) (show 2 ^ 10 ≤ 1024 by decide), fun a ha => by rw [List.mem_singleton.mp ha, rng_len]; show 0 + m ≤ 10; omega⟩
  have q := fold_fst (α := List (Tp Int)) (γ := Sl) (f := lotsS) (step := fun (t : List (Tp Int) × Sl) (x : Int) => (lotsS t.1 x, Sl.im (.int x))) (fun _ _ => rfl) (rng m) ([[]], .un)
  generalize List.foldl (fun (t : List (Tp Int) × Sl) (x : Int) => (lotsS t.1 x, Sl.im (.int x))) ([[]], .un) (rng m) = z at q key
  obtain ⟨z1, z2⟩ := z
  have q' : z1 = lotsU (rng m) := q
  subst q'
  have hlen : (lotsU (rng m)).length ≤ sizeLine := by
    have := lotsU_len (rng m) [[]]
    unfold lotsU
    rw [this, rng_len, sizeLine_eq]
    show 1 * 2 ^ m ≤ 16777216
    rw [Nat.one_mul]
    exact Nat.le_trans (Nat.pow_le_pow_right (by omega) h) (show 2 ^ 10 ≤ 16777216 by decide)
  obtain ⟨L, e, p⟩ := sort_lots hlen
  refine ⟨L, ?_, p⟩
  refine fnD_rt (ρ1 := lotsK m (lotsU (rng m), z2)) ?_
  show semLots [.im (.int m), .un, .un, .un] S = _
  unfold semLots
  have e1 : sSet 1 (eFz (eLst (aCons (eTup (aNil)) (aNil)))) [.im (.int m), .un, .un, .un] S = some (.nx, lotsK m ([[]], .un), S) := by
    simp [sizeLine_eq]
    rfl
  have e2 : lotsW (lotsK m ([[]], .un)) S = some (.nx, lotsK m (lotsU (rng m), z2), S) := by
    unfold lotsW
    have it : itR (aCons (eVar 0) (aNil)) (lotsK m ([[]], .un)) S = some ((rng m).map en, lotsK m ([[]], .un), S) := by
      simp [lotsK, rgOf1 (show m ≤ 16777216 by omega)]
    rw [sFor_ap, it, bindS]
    exact key.1
  rw [seqN e1, seqN e2]
  simp [lotsK, e]
end Dn

set_option Elab.async false
set_option linter.all false
set_option maxRecDepth 100000
set_option maxHeartbeats 4000000
/-! FrmP: frames, drawn. -/
namespace Dn
open PySem PySem.Spec PyProof.Rows L2

structure Fr where
  n : Nat
  roads : List (Int × Int)
def Fr.ok (F : Fr) : Prop := F.n ≤ 64 ∧ F.roads.length ≤ 64 ∧ ∀ r ∈ F.roads, r.1 ∈ rng F.n ∧ r.2 ∈ rng F.n
def frE (F : Fr) : PyData := .tuple [.int F.n, tu F.roads]
theorem frE_inj {F G : Fr} (h : frE F = frE G) : F = G := by
  unfold frE at h
  simp only [PyData.tuple.injEq, List.cons.injEq, PyData.int.injEq] at h
  obtain ⟨n, r⟩ := F
  obtain ⟨m, s⟩ := G
  have h1 := h.1
  have h2 := tu_inj h.2.1
  simp only at h1 h2
  rw [h2, show n = m by omega]
@[simp] theorem frE_0 (F : Fr) : gIx (frE F) (.int 0) = some (.im (.int F.n)) := rfl
@[simp] theorem frE_1 (F : Fr) : gIx (frE F) (.int 1) = some (.im (tu F.roads)) := rfl

def frmT (mp : FS) : STt := ofE (eBin gGt (eCall 2 mp (aCons (eVar 0) (aCons (eC (.int 3)) (aNil)))) (eC (.int 0)))
def frmC (mp : FS) : SE := eLc (itR (aCons (eVar 6) (aNil))) [7] (gNm 7) (frmT mp) (eVar 7)
def frmB2 : SS := sExpr (eOwn 4 oAppend (aCons (eTup (aCons (eBin gIx (eVar 5) (eVar 6)) (aCons (eBin gIx (eVar 5) (eVar 7)) (aNil)))) (aNil)))
def frm2 (mp : FS) : SS := sFor (itF (frmC mp)) (gNm 7) frmB2
def frm3 (mp : FS) : SS := sFor (itR (aCons (eVar 3) (aNil))) (gNm 6) (frm2 mp)
def frmB1 (mp : FS) : SS := sExpr (eOwn 4 oAppend (aCons (eTup (aCons (eBin gIx (eVar 5) (eCall 2 mp (aCons (eVar 0) (aCons (eVar 3) (aNil))))) (aCons (eBin gIx (eVar 5) (eCall 2 mp (aCons (eVar 0) (aCons (eVar 3) (aNil))))) (aNil)))) (aNil)))
def frm1 (mp : FS) : SS := sFor (itR (aCons (eCall 2 mp (aCons (eVar 0) (aCons (eBin gAdd (eVar 2) (eC (.int 1))) (aNil)))) (aNil))) (gNm 8) (frmB1 mp)
def semFrm (mp mm : FS) : SS := sSeq (sPar [3, 4] (aCons (eFz (eBin gAdd (eC (.int 1)) (eCall 2 mp (aCons (eVar 0) (aCons (eVar 1) (aNil)))))) (aCons (eLst (aNil)) (aNil)))) (sSeq (sSet 5 (eCall 2 mm (aCons (eVar 0) (aCons (eRgL (aCons (eVar 3) aNil)) (aNil))))) (sSeq (sIf (ofE (eBin gEq (eCall 2 mp (aCons (eVar 0) (aCons (eC (.int 3)) (aNil)))) (eC (.int 0)))) (frm3 mp) (sNil)) (sSeq (frm1 mp) (sRet (eTup (aCons (eVar 3) (aCons (eB (g1 gTuple) (aCons (eSl (eVar 4) oNone (oSome (eC (.int 15)))) (aNil))) (aNil))))))))

def RdOk (n : Nat) (roads : List (Int × Int)) : Prop := ∀ r ∈ roads, r.1 ∈ rng n ∧ r.2 ∈ rng n
def fK (most many n : Nat) (roads : List (Int × Int)) (names : List Int) (s6 s7 s8 : Sl) : Rho := [.so, .im (.int most), .im (.int many), .im (.int n), .ow (li roads), .im (li names), s6, s7, s8]
/-- an item of names -/
theorem names_at {n : Nat} {names : List Int} (p : names.Perm (rng n)) {x : Nat} (h : x < n) : ∃ a, names[x]? = some a ∧ a ∈ rng n ∧ gIx (li names) (.int x) = some (.im (.int a)) := by
  have hl : x < names.length := by rw [p.length_eq, rng_len]; exact h
  have e : names[x]? = some names[x] := List.getElem?_eq_getElem hl
  exact ⟨names[x], e, p.mem_iff.mp (List.getElem_mem hl), gIx_li e⟩
theorem rng_nat {n : Nat} {x : Int} (h : x ∈ rng n) : ∃ k : Nat, x = k ∧ k < n := by
  obtain ⟨h1, h2⟩ := mem_rng.mp h
  exact ⟨x.toNat, (Int.toNat_of_nonneg h1).symm, by omega⟩
theorem rdApp {n : Nat} {roads : List (Int × Int)} (h : RdOk n roads) {a b : Int} (ha : a ∈ rng n) (hb : b ∈ rng n) : RdOk n (roads ++ [(a, b)]) := by
  intro r hr
  rcases List.mem_append.mp hr with hr | hr
  · exact h r hr
  · rw [List.mem_singleton.mp hr]; exact ⟨ha, hb⟩
section
variable {most many n : Nat} {names : List Int} {S : Src}
theorem frmT_ev {ρ : Rho} {S : Src} (h0 : ρ[0]? = some .so) (hS : SOk S) : frmT mm_pick ρ S = some (decide (0 < ((pickR S 3).1 : Int)), ρ, (pickR S 3).2) := by
  have e := pick_at (S := S) (many := 3) (by omega) hS
  have e' : mm_pick [.so, .im (.int 3)] S = some (.int (pickR S 3).1, (pickR S 3).2) := e
  unfold frmT
  simp [h0, e']
/-- which y: some of them -/
theorem frmC_go {ρi : Rho} (h0 : ρi[0]? = some .so) (h7 : 7 < ρi.length) : ∀ (l : List Int) (S : Src), SOk S → ∃ m S', lcGo (gNm 7) (frmT mm_pick) (eVar 7) ρi (l.map en) S = some (m.map en, S') ∧ List.Sublist m l ∧ SOk S'
  | [], S, hS => ⟨[], S, rfl, List.Sublist.refl _, hS⟩
  | a :: l, S, hS => by
    have ev := frmT_ev (ρ := ρi.set 7 (.im (en a))) (S := S) (by rw [List.getElem?_set_ne (by omega)]; exact h0) hS
    obtain ⟨m, S', h1, h2, h3⟩ := frmC_go h0 h7 l (pickR S 3).2 (pick_ok (by omega) hS)
    by_cases c : 0 < ((pickR S 3).1 : Int)
    · refine ⟨a :: m, S', ?_, h2.cons₂ a, h3⟩
      rw [List.map_cons, List.map_cons]
      unfold lcGo
      rw [gNm_ap, bindS, ev, bindS, decide_eq_true c]
      simp [h7, h1]
    · refine ⟨m, S', ?_, h2.cons a, h3⟩
      rw [List.map_cons]
      unfold lcGo
      rw [gNm_ap, bindS, ev, bindS, decide_eq_false c]
      simpa using h1
theorem frmC_ev {roads : List (Int × Int)} {x : Nat} {s7 s8 : Sl} (hx : x ≤ 64) (hS : SOk S) : ∃ m S', frmC mm_pick (fK most many n roads names (.im (.int x)) s7 s8) S = some (.ow (li m), fK most many n roads names (.im (.int x)) s7 s8, S') ∧ List.Sublist m (rng x) ∧ SOk S' := by
  obtain ⟨m, S', h1, h2, h3⟩ := frmC_go (ρi := inn (fK most many n roads names (.im (.int x)) s7 s8) [7]) (by rfl) (by simp [fK]) (rng x) S hS
  refine ⟨m, S', ?_, h2, h3⟩
  have it : itR (aCons (eVar 6) (aNil)) (fK most many n roads names (.im (.int x)) s7 s8) S = some ((rng x).map en, fK most many n roads names (.im (.int x)) s7 s8, S) := by
    simp [fK, rgOf1 (show x ≤ 16777216 by omega)]
  unfold frmC eLc
  rw [it, bindS]
  simp only []
  rw [if_pos (by rw [List.length_map, rng_len, sizeLine_eq]; omega), h1]
  rfl
/-- the roads between x and the ys -/
theorem frm2_ev {roads : List (Int × Int)} {x : Nat} {s7 s8 : Sl} (p : names.Perm (rng n)) (hx : x < n) (hn : n ≤ 64) (hS : SOk S) (hr : RdOk n roads) (hl : roads.length ≤ 10000) : ∃ roads' s7' S', frm2 mm_pick (fK most many n roads names (.im (.int x)) s7 s8) S = some (.nx, fK most many n roads' names (.im (.int x)) s7' s8, S') ∧ RdOk n roads' ∧ roads'.length ≤ roads.length + x ∧ SOk S' := by
  obtain ⟨m, S1, h1, h2, h3⟩ := frmC_ev (S := S) (most := most) (many := many) (n := n) (names := names) (roads := roads) (x := x) (s7 := s7) (s8 := s8) (by omega) hS
  have hm : ∀ y ∈ m, y ∈ rng x := fun y hy => h2.subset hy
  have ml : m.length ≤ x := by have := h2.length_le; rw [rng_len] at this; exact this
  obtain ⟨ax, hax, hax2, hax3⟩ := names_at p hx
  obtain ⟨ρ', S', e, q⟩ := forE (g := gNm 7) (b := frmB2) (en (α := Int)) (fun l ρ S => ∃ roads' s7', ρ = fK most many n roads' names (.im (.int x)) s7' s8 ∧ S = S1 ∧ RdOk n roads' ∧ roads'.length + l.length ≤ roads.length + m.length ∧ ∀ y ∈ l, y ∈ rng x) (fun y l ρ S ⟨roads', s7', g1, g2, g3, g4, g5⟩ => by
    subst g1 g2
    obtain ⟨k, rfl, hk⟩ := rng_nat (g5 y (List.mem_cons_self ..))
    obtain ⟨ay, hay, hay2, hay3⟩ := names_at p (show k < n by omega)
    simp only [List.length_cons] at g4
    have f := app_ev (α := Int × Int) (ρ := fK most many n roads' names (.im (.int x)) (.im (.int k)) s8) (S := S) (i := 4) (t := roads') (a := (ax, ay)) (f := eTup (aCons (eBin gIx (eVar 5) (eVar 6)) (aCons (eBin gIx (eVar 5) (eVar 7)) (aNil)))) (r := .im (.tuple [.int ax, .int ay])) (ρ1 := fK most many n roads' names (.im (.int x)) (.im (.int k)) s8) (ρ2 := fK most many n roads' names (.im (.int x)) (.im (.int k)) s8) (S1 := S) rfl (by simp [fK, hax3, hay3, sizeLine_eq]) rfl rfl (by rw [sizeLine_eq]; omega)
    refine ⟨fK most many n roads' names (.im (.int x)) (.im (.int k)) s8, fK most many n (roads' ++ [(ax, ay)]) names (.im (.int x)) (.im (.int k)) s8, S, rfl, .inl ?_, _, _, rfl, rfl, rdApp g3 hax2 hay2, ?_, fun z hz => g5 z (List.mem_cons_of_mem _ hz)⟩
    · unfold frmB2
      rw [sExpr_ap, f]
      rfl
    · rw [List.length_append]; simp; omega) m _ S1 ⟨roads, s7, rfl, rfl, hr, Nat.le_refl _, hm⟩
  obtain ⟨roads', s7', rfl, rfl, q1, q2, _⟩ := q
  refine ⟨roads', s7', S', ?_, q1, by simp at q2; omega, h3⟩
  unfold frm2
  rw [sFor_ap]
  have it : itF (frmC mm_pick) (fK most many n roads names (.im (.int x)) s7 s8) S = some (m.map en, fK most many n roads names (.im (.int x)) s7 s8, S') := by
    rw [itF_ap, h1]
    rfl
  rw [it, bindS]
  exact e
theorem frm3_ev (p : names.Perm (rng n)) (hn : n ≤ 64) (hS : SOk S) : ∃ roads' s6 s7 S', frm3 mm_pick (fK most many n [] names .un .un .un) S = some (.nx, fK most many n roads' names s6 s7 .un, S') ∧ RdOk n roads' ∧ roads'.length ≤ n * 64 ∧ SOk S' := by
  obtain ⟨ρ', S', e, q⟩ := forE (g := gNm 6) (b := frm2 mm_pick) (en (α := Int)) (fun l ρ S => ∃ roads' s6 s7, ρ = fK most many n roads' names s6 s7 .un ∧ SOk S ∧ RdOk n roads' ∧ roads'.length + l.length * 64 ≤ n * 64 ∧ ∀ y ∈ l, y ∈ rng n) (fun y l ρ S ⟨roads', s6, s7, h1, h2, h3, h4, h5⟩ => by
    subst h1
    obtain ⟨k, rfl, hk⟩ := rng_nat (h5 y (List.mem_cons_self ..))
    simp only [List.length_cons, Nat.succ_mul] at h4
    obtain ⟨roads2, s72, S2, e1, e2, e3, e4⟩ := frm2_ev (most := most) (many := many) (x := k) (s7 := s7) (s8 := .un) (S := S) p hk hn h2 h3 (by omega)
    exact ⟨_, _, S2, rfl, .inl e1, roads2, _, s72, rfl, e4, e2, by omega, fun z hz => h5 z (List.mem_cons_of_mem _ hz)⟩) (rng n) (fK most many n [] names .un .un .un) S ⟨[], .un, .un, rfl, hS, (fun r hr => by cases hr), by rw [rng_len]; simp, fun y hy => hy⟩
  obtain ⟨roads', s6, s7, rfl, q0, q1, q2, _⟩ := q
  refine ⟨roads', s6, s7, S', ?_, q1, by simpa using q2, q0⟩
  unfold frm3
  have it : itR (aCons (eVar 3) (aNil)) (fK most many n [] names .un .un .un) S = some ((rng n).map en, fK most many n [] names .un .un .un, S) := by
    simp [fK, rgOf1 (show n ≤ 16777216 by omega)]
  rw [sFor_ap, it, bindS]
  exact e
theorem frm1_ev {roads : List (Int × Int)} {s6 s7 : Sl} (p : names.Perm (rng n)) (hn : n ≤ 64) (h0 : 0 < n) (hS : SOk S) (hr : RdOk n roads) (hl : roads.length ≤ 10000) (hm : many ≤ 1000) : ∃ roads' s8 S', frm1 mm_pick (fK most many n roads names s6 s7 .un) S = some (.nx, fK most many n roads' names s6 s7 s8, S') ∧ RdOk n roads' ∧ SOk S' := by
  have pk := pick_at (S := S) (many := many + 1) (by omega) hS
  have lt := pick_lt (S := S) (many := many + 1) (by omega) hS
  have ok := pick_ok (S := S) (many := many + 1) (by omega) hS
  generalize pickR S (many + 1) = z at pk lt ok
  obtain ⟨k, S1⟩ := z
  simp only at pk lt ok
  obtain ⟨ρ', S', e, q⟩ := forE (g := gNm 8) (b := frmB1 mm_pick) (en (α := Int)) (fun l ρ S => ∃ roads' s8, ρ = fK most many n roads' names s6 s7 s8 ∧ SOk S ∧ RdOk n roads' ∧ roads'.length + l.length ≤ roads.length + k) (fun y l ρ S ⟨roads', s8, h1, h2, h3, h4⟩ => by
    subst h1
    simp only [List.length_cons] at h4
    have a1 := pick_at (S := S) (many := n) (by omega) h2
    have a2 := pick_lt (S := S) (many := n) (by omega) h2
    have a3 := pick_ok (S := S) (many := n) (by omega) h2
    generalize pickR S n = z at a1 a2 a3
    obtain ⟨x1, S1⟩ := z
    simp only at a1 a2 a3
    have b1 := pick_at (S := S1) (many := n) (by omega) a3
    have b2 := pick_lt (S := S1) (many := n) (by omega) a3
    have b3 := pick_ok (S := S1) (many := n) (by omega) a3
    generalize pickR S1 n = z at b1 b2 b3
    obtain ⟨x2, S2⟩ := z
    simp only at b1 b2 b3
    obtain ⟨ax, hax, hax2, hax3⟩ := names_at p (show x1 < n by omega)
    obtain ⟨ay, hay, hay2, hay3⟩ := names_at p (show x2 < n by omega)
    have f := app_ev (α := Int × Int) (ρ := fK most many n roads' names s6 s7 (.im (en y))) (S := S) (i := 4) (t := roads') (a := (ax, ay)) (f := eTup (aCons (eBin gIx (eVar 5) (eCall 2 mm_pick (aCons (eVar 0) (aCons (eVar 3) (aNil))))) (aCons (eBin gIx (eVar 5) (eCall 2 mm_pick (aCons (eVar 0) (aCons (eVar 3) (aNil))))) (aNil)))) (r := .im (.tuple [.int ax, .int ay])) (ρ1 := fK most many n roads' names s6 s7 (.im (en y))) (ρ2 := fK most many n roads' names s6 s7 (.im (en y))) (S1 := S2) rfl (by simp [fK, a1, b1, hax3, hay3, sizeLine_eq]) rfl rfl (by rw [sizeLine_eq]; omega)
    refine ⟨fK most many n roads' names s6 s7 (.im (en y)), fK most many n (roads' ++ [(ax, ay)]) names s6 s7 (.im (en y)), S2, rfl, .inl ?_, _, _, rfl, b3, rdApp h3 hax2 hay2, ?_⟩
    · unfold frmB1
      rw [sExpr_ap, f]
      rfl
    · rw [List.length_append]; simp; omega) (rng k) (fK most many n roads names s6 s7 .un) S1 ⟨roads, .un, rfl, ok, hr, by rw [rng_len]; exact Nat.le_refl _⟩
  obtain ⟨roads', s8, rfl, q0, q1, _⟩ := q
  refine ⟨roads', s8, S', ?_, q1, q0⟩
  unfold frm1
  have it : itR (aCons (eCall 2 mm_pick (aCons (eVar 0) (aCons (eBin gAdd (eVar 2) (eC (.int 1))) (aNil)))) (aNil)) (fK most many n roads names s6 s7 .un) S = some ((rng k).map en, fK most many n roads names s6 s7 .un, S1) := by
    have pk' : mm_pick [.so, .im (.int ((many : Int) + 1))] S = some (.int k, S1) := pk
    simp [fK, pk', rgOf1 (show k ≤ 16777216 by omega)]
  rw [sFor_ap, it, bindS]
  exact e
/-- a frame of at most most crossings -/
theorem frm_ev (h1 : 1 ≤ most) (h2 : most ≤ 64) (h3 : many ≤ 1000) (hS : SOk S) : ∃ F S', fnD 9 (semFrm mm_pick mm_mixed) [.so, .im (.int most), .im (.int many)] S = some (frE F, S') ∧ F.ok ∧ 1 ≤ F.n ∧ F.n ≤ most ∧ F.roads.length ≤ 15 ∧ SOk S' := by
  have a1 := pick_at (S := S) (many := most) (by omega) hS
  have a2 := pick_lt (S := S) (many := most) (by omega) hS
  have a3 := pick_ok (S := S) (many := most) (by omega) hS
  generalize pickR S most = z at a1 a2 a3
  obtain ⟨x1, S1⟩ := z
  simp only at a1 a2 a3
  have hn : 1 + x1 ≤ 64 := by omega
  have e1 : sPar [3, 4] (aCons (eFz (eBin gAdd (eC (.int 1)) (eCall 2 mm_pick (aCons (eVar 0) (aCons (eVar 1) (aNil)))))) (aCons (eLst (aNil)) (aNil))) [.so, .im (.int most), .im (.int many), .un, .un, .un, .un, .un, .un] S = some (.nx, [.so, .im (.int most), .im (.int many), .im (.int (1 + (x1 : Int))), .ow (li ([] : List (Int × Int))), .un, .un, .un, .un], S1) := by
    simp [a1, sizeLine_eq]
    rfl
  rw [show (1 : Int) + (x1 : Int) = ((1 + x1 : Nat) : Int) by omega] at e1
  have hm : 1 + x1 ≤ most := by omega
  have h0 : 0 < 1 + x1 := by omega
  generalize 1 + x1 = n at e1 hn hm h0
  obtain ⟨names, S2, m1, p, hS2⟩ := mixA_li (α := Int) (S := S1) (l := rng n) (by rw [rng_len]; omega) a3
  have m2 : mm_mixed [.so, .im (li (rng n))] S1 = some (li names, S2) := by
    have := mix_at (S := S1) (k := true) (l := (rng n).map en) (by rw [List.length_map, rng_len]; omega) a3
    rw [m1] at this
    exact this
  have e2 : sSet 5 (eCall 2 mm_mixed (aCons (eVar 0) (aCons (eRgL (aCons (eVar 3) aNil)) (aNil)))) [.so, .im (.int most), .im (.int many), .im (.int n), .ow (li ([] : List (Int × Int))), .un, .un, .un, .un] S1 = some (.nx, fK most many n [] names .un .un .un, S2) := by
    have it : itR (aCons (eVar 3) aNil) [.so, .im (.int most), .im (.int many), .im (.int n), .ow (li ([] : List (Int × Int))), .un, .un, .un, .un] S1 = some ((rng n).map en, [.so, .im (.int most), .im (.int many), .im (.int n), .ow (li ([] : List (Int × Int))), .un, .un, .un, .un], S1) := by
      simp [rgOf1 (show n ≤ 16777216 by omega)]
    have m2' : mm_mixed [.so, .im (.list ((rng n).map en))] S1 = some (li names, S2) := m2
    simp [-itR_ap, it, m2', fK]
  have b1 := pick_at (S := S2) (many := 3) (by omega) hS2
  have b3 := pick_ok (S := S2) (many := 3) (by omega) hS2
  generalize pickR S2 3 = z at b1 b3
  obtain ⟨x2, S3⟩ := z
  simp only at b1 b3
  have e3 : ∃ roads s6 s7 S4, sIf (ofE (eBin gEq (eCall 2 mm_pick (aCons (eVar 0) (aCons (eC (.int 3)) (aNil)))) (eC (.int 0)))) (frm3 mm_pick) (sNil) (fK most many n [] names .un .un .un) S2 = some (.nx, fK most many n roads names s6 s7 .un, S4) ∧ RdOk n roads ∧ roads.length ≤ n * 64 ∧ SOk S4 := by
    have b1' : mm_pick [.so, .im (.int 3)] S2 = some (.int x2, S3) := b1
    have t : ofE (eBin gEq (eCall 2 mm_pick (aCons (eVar 0) (aCons (eC (.int 3)) (aNil)))) (eC (.int 0))) (fK most many n [] names .un .un .un) S2 = some (decide ((x2 : Int) = 0), fK most many n [] names .un .un .un, S3) := by
      simp [fK, b1']
    by_cases c : (x2 : Int) = 0
    · obtain ⟨roads, s6, s7, S4, q1, q2, q3, q4⟩ := frm3_ev (most := most) (many := many) (S := S3) p hn b3
      refine ⟨roads, s6, s7, S4, ?_, q2, q3, q4⟩
      rw [sIf_ap, t, bindS, decide_eq_true c]
      exact q1
    · refine ⟨[], .un, .un, S3, ?_, (fun r hr => by cases hr), Nat.zero_le _, b3⟩
      rw [sIf_ap, t, bindS, decide_eq_false c]
      rfl
  obtain ⟨roads, s6, s7, S4, e3, r1, r2, r3⟩ := e3
  obtain ⟨roads', s8, S5, e4, r4, r5⟩ := frm1_ev (most := most) (many := many) (s6 := s6) (s7 := s7) p hn h0 r3 r1 (by omega) h3
  refine ⟨⟨n, roads'.take 15⟩, S5, ?_, ⟨hn, by rw [List.length_take]; omega, fun r hr => r4 r (List.mem_of_mem_take hr)⟩, h0, hm, by show (roads'.take 15).length ≤ 15; rw [List.length_take]; omega, r5⟩
  refine fnD_rt (ρ1 := fK most many n roads' names s6 s7 s8) ?_
  show semFrm mm_pick mm_mixed [.so, .im (.int most), .im (.int many), .un, .un, .un, .un, .un, .un] S = _
  unfold semFrm
  rw [seqN e1, seqN e2, seqN e3, seqN e4]
  have sl : gSl (li roads') none (some 15) = some (.ow (li (roads'.take 15))) := gSl_li roads' 15
  simp [fK, sl, sizeLine_eq, frE]
end
end Dn

set_option Elab.async false
set_option linter.all false
set_option maxRecDepth 100000
set_option maxHeartbeats 4000000
/-! NearP: the neighbours as a dict of dicts. -/
namespace Dn
open PySem PySem.Spec PyProof.Rows L2

def addKey (l : List Int) (b : Int) : List Int := if b ∈ l then l else l ++ [b]
def nearS (R : List (List Int)) (r : Int × Int) : List (List Int) := if r.1 = r.2 then R else (R.modify r.1.toNat fun l => addKey l r.2).modify r.2.toNat fun l => addKey l r.1
def nearR (F : Fr) : List (List Int) := F.roads.foldl nearS (List.replicate F.n [])
def rowD (l : List Int) : PyData := .dict (l.map fun k => (.int k, .int 0))
def nearG : Nat → List (List Int) → List (PyData × PyData)
  | _, [] => []
  | k, l :: R => (.int k, rowD l) :: nearG (k + 1) R
def nearD (R : List (List Int)) : PyData := .dict (nearG 0 R)
def e_fr (F : Fr) : List Sl := [.im (frE F)]
theorem e_fr_inj (a b : Fr) (h : e_fr a = e_fr b) : a = b := by
  unfold e_fr at h
  simp only [List.cons.injEq, Sl.im.injEq] at h
  exact frE_inj h.1
noncomputable def mm_near : FS := FSof e_fr (fun F => F.ok) (fun F => nearD (nearR F))
theorem near_at {F : Fr} (h : F.ok) (S : Src) : mm_near [.im (frE F)] S = some (nearD (nearR F), S) :=
  FSof_at (enc := e_fr) (a := F) (fun a b h => by rw [e_fr_inj a b h]) h S
theorem nearS_len (R : List (List Int)) (r : Int × Int) : (nearS R r).length = R.length := by
  unfold nearS
  split
  · rfl
  · rw [List.length_modify, List.length_modify]

/-! ### in the heap -/
def topG : Nat → List Addr → List (Key × V)
  | _, [] => []
  | k, d :: D => (.inl (k : Int), .ref d) :: topG (k + 1) D
def rowH (l : List Int) : List (Key × V) := l.map fun k => (.inl k, .int 0)
theorem topG_get : ∀ (D : List Addr) (k i : Nat) (d : Addr), D[i]? = some d → valV (topG k D) (.inl ((k + i : Nat) : Int)) = some (.ref d)
  | [], _, _, _, h => by simp at h
  | e :: D, k, 0, d, h => by
    simp at h
    subst h
    exact valV_pos (by simp)
  | e :: D, k, i + 1, d, h => by
    have ih := topG_get D (k + 1) i d (by simpa using h)
    rw [show k + (i + 1) = k + 1 + i by omega]
    show valV ((.inl (k : Int), .ref e) :: topG (k + 1) D) _ = _
    unfold valV at ih ⊢
    rw [List.find?_cons]
    have : decide ((Sum.inl (k : Int) : Key) = .inl ((k + 1 + i : Nat) : Int)) = false := decide_eq_false fun h => by
      have := Sum.inl.inj h
      omega
    rw [this]
    exact ih
theorem topG_merge : ∀ (D : List Addr) (k : Nat) (acc : List (Key × V)), (∀ p ∈ acc, ∃ j : Nat, p.1 = .inl (j : Int) ∧ j < k) → mergeK acc (topG k D) = acc ++ topG k D
  | [], k, acc, _ => by
    show acc = acc ++ []
    rw [List.append_nil]
  | d :: D, k, acc, h => by
    have e : putK acc (.inl (k : Int)) (.ref d) = acc ++ [(.inl (k : Int), .ref d)] := by
      unfold putK
      rw [if_neg]
      intro q
      rw [List.any_eq_true] at q
      obtain ⟨p, hp, hq⟩ := q
      obtain ⟨j, e, hj⟩ := h p hp
      rw [e] at hq
      have := Sum.inl.inj (of_decide_eq_true hq)
      omega
    show mergeK (putK acc (.inl (k : Int)) (.ref d)) (topG (k + 1) D) = _
    rw [e, topG_merge D (k + 1) _ fun p hp => by
      rcases List.mem_append.mp hp with hp | hp
      · obtain ⟨j, e, hj⟩ := h p hp
        exact ⟨j, e, by omega⟩
      · rw [List.mem_singleton.mp hp]
        exact ⟨k, rfl, by omega⟩, List.append_assoc]
    rfl
theorem rowH_put (l : List Int) (b : Int) : putK (rowH l) (.inl b) (.int 0) = rowH (addKey l b) := by
  unfold putK addKey rowH
  by_cases c : b ∈ l
  · rw [if_pos c, if_pos]
    · rw [List.map_map]
      apply List.map_congr_left
      intro k _
      simp only [Function.comp]
      split <;> rfl
    · rw [List.any_eq_true]
      exact ⟨(.inl b, .int 0), List.mem_map.mpr ⟨b, c, rfl⟩, decide_eq_true rfl⟩
  · rw [if_neg c, if_neg, List.map_append]
    · rfl
    · intro q
      rw [List.any_eq_true] at q
      obtain ⟨p, hp, hq⟩ := q
      obtain ⟨k, hk, rfl⟩ := List.mem_map.mp hp
      have := Sum.inl.inj (of_decide_eq_true hq)
      subst this
      exact c hk
theorem row_rp {F : Hp} : ∀ l : List Int, RpK F (rowH l) (l.map fun k => (.int k, .int 0))
  | [] => .nil
  | k :: l => .cons (k := .inl k) (.int 0) (row_rp l)
theorem top_rp {F : Hp} : ∀ (D : List Addr) (R : List (List Int)) (k : Nat), D.length = R.length → (∀ (i : Nat) d l, D[i]? = some d → R[i]? = some l → F d = some (.dK (rowH l))) → RpK F (topG k D) (nearG k R)
  | [], [], _, _, _ => .nil
  | d :: D, l :: R, k, h, q => .cons (k := .inl (k : Int)) (.dk (q 0 d l rfl rfl) (row_rp l)) (top_rp D R (k + 1) (by simpa using h) fun i d l h1 h2 => q (i + 1) d l (by simpa using h1) (by simpa using h2))
  | [], _ :: _, _, h, _ => by cases h
  | _ :: _, [], _, h, _ => by cases h
/-- the pairs being made -/
structure NI (H0 H' : Hp) (L : Addr) (ps D : List Addr) : Prop where
  keep : ∀ b o, H0 b = some o → H' b = some o
  acc : H' L = some (.lst (ps.map V.ref))
  len : ps.length = D.length
  tup : ∀ (j : Nat) t d, ps[j]? = some t → D[j]? = some d → H' t = some (.tup [.int j, .ref d])
  dct : ∀ d ∈ D, H' d = some (.dK [])
  fr : ∀ d ∈ D, H0 d = none
  nd : D.Nodup
/-- the dict being filled -/
structure NJ (H0 H' : Hp) (p : Addr) (D : List Addr) (R : List (List Int)) : Prop where
  keep : ∀ b o, H0 b = some o → H' b = some o
  top : H' p = some (.dK (topG 0 D))
  len : D.length = R.length
  row : ∀ (i : Nat) d l, D[i]? = some d → R[i]? = some l → H' d = some (.dK (rowH l))
  fp : H0 p = none
  fr : ∀ d ∈ D, H0 d = none
  nd : D.Nodup
  pD : p ∉ D
theorem NJ.put {H0 H' : Hp} {p : Addr} {D : List Addr} {R : List (List Int)} (J : NJ H0 H' p D R) {a : Nat} {b : Int} {d : Addr} (hd : D[a]? = some d) : NJ H0 (upd H' d (.dK (rowH (addKey (R.getD a []) b)))) p D (R.modify a fun l => addKey l b) := by
  have hm : d ∈ D := List.mem_of_getElem? hd
  have hf := J.fr d hm
  refine ⟨fun c o e => by rw [upd_ne (ne_of_none e hf)]; exact J.keep c o e, ?_, by rw [List.length_modify]; exact J.len, fun i e l h1 h2 => ?_, J.fp, J.fr, J.nd, J.pD⟩
  · rw [upd_ne (fun z => J.pD (by rw [z]; exact hm))]; exact J.top
  · rw [List.getElem?_modify] at h2
    by_cases hi : a = i
    · subst hi
      rw [hd] at h1
      cases h1
      rw [upd_same]
      cases q : R[a]? with
      | none => rw [q] at h2; cases h2
      | some l0 =>
        rw [q] at h2
        simp at h2
        subst h2
        rw [List.getD_eq_getElem?_getD, q]
        rfl
    · have ne : e ≠ d := fun z => by
        subst z
        have := (List.getElem?_inj (by exact (List.getElem?_eq_some_iff.mp hd).1) J.nd).mp (hd.trans h1.symm)
        exact hi this
      rw [upd_ne ne]
      refine J.row i e l h1 ?_
      simpa [hi] using h2
/-- the end: all is frozen -/
theorem NJ.fin {H0 H' F : Hp} {p : Addr} {D : List Addr} {R : List (List Int)} (J : NJ H0 H' p D R) (s : Sub F H0) : ∃ F', Rp F' (.ref p) (nearD R) ∧ Sub F' H' ∧ Sub F F' ∧ ∀ b, F' b ≠ none → F b ≠ none ∨ H0 b = none := by
  have nF : ∀ b, b = p ∨ b ∈ D → F b = none := fun b h => by
    have h0 : H0 b = none := by
      rcases h with rfl | h
      · exact J.fp
      · exact J.fr b h
    cases q : F b with
    | none => rfl
    | some o => rw [s b o q] at h0; cases h0
  have at' : ∀ b, b = p ∨ b ∈ D → (fun b => if b = p ∨ b ∈ D then H' b else F b) b = H' b := fun b h => if_pos h
  refine ⟨fun b => if b = p ∨ b ∈ D then H' b else F b, .dk (kvs := topG 0 D) ?_ (top_rp D R 0 J.len fun i d l h1 h2 => ?_), fun b o e => ?_, fun b o e => ?_, fun b e => ?_⟩
  · exact (at' p (.inl rfl)).trans J.top
  · exact (at' d (.inr (List.mem_of_getElem? h1))).trans (J.row i d l h1 h2)
  · by_cases c : b = p ∨ b ∈ D
    · have e' := (at' b c).symm.trans e
      exact e'
    · have e' : F b = some o := (if_neg c).symm.trans e
      exact J.keep b o (s b o e')
  · show (if b = p ∨ b ∈ D then H' b else F b) = some o
    rw [if_neg fun c => by rw [nF b c] at e; cases e]
    exact e
  · by_cases c : b = p ∨ b ∈ D
    · right
      rcases c with rfl | c
      · exact J.fp
      · exact J.fr b c
    · left
      intro z
      exact e ((if_neg c).trans z)
theorem pset_d {X : Cx} (hu : X.A.units + 1 < cLine) : PSet X (fun o i v H Q => ∃ a H', o = .ref a ∧ DPut H a i v H' ∧ Q H') := by
  intro pins s σ H o i v ov iv u Q I r1 r2 r3 h
  obtain ⟨a, H', rfl, g, q⟩ := h
  obtain rfl : ov = Value.ref a := r1
  exact d_setItem hu I g r2 r3 fun s' I' => ⟨H', I', q⟩

/-! ### the text's steps -/
def rDictL (K : PySem.W.Frag) : List V → Hp → VK → Prop := fun xs H Q => ∃ (a : Addr) (ps : List Addr) (kvs : List (Key × V)), xs = [.ref a] ∧ SqL K H a (ps.map V.ref) ∧ Paired (fun p kv => SqT K H p [kV kv.1, kv.2]) ps kvs ∧ ∀ p, H p = none → Q (.ref p) (upd H p (.dK (mergeK [] kvs)))
def nearTl : TE → TE := fun r => tLc (iRng1 (tCons r tNil)) (gName 4) tYes (tTup (tCons (tVar 4) (tCons tDNewK tNil))) [4]
def setDT : TSet := fun o i v H Q => ∃ a H', o = .ref a ∧ DPut H a i v H' ∧ Q H'
def nearBd (K : PySem.W.Frag) : TS := tIfS (tTest (tOp rNe (tVar 2) (tVar 3))) (tAsg (tTup (tCons (tC (.int 0)) (tCons (tC (.int 0)) tNil)))
  (gTup K 2 (gCons (L2.gSub (tOp (rIxG K) (tVar 1) (tVar 2)) (tVar 3) setDT) (gCons (L2.gSub (tOp (rIxG K) (tVar 1) (tVar 3)) (tVar 2) setDT) gNil)))) tNext
def tNear (K : PySem.W.Frag) : TS := tSeq (tAsg (tCB (rDictL K) (tCons (nearTl (tOp (rIxG K) (tVar 0) (tC (.int 0)))) tNil)) (gName 1))
  (tSeq (tFor (iTup K (tOp (rIxG K) (tVar 0) (tC (.int 1)))) (gTup K 2 (gCons (gName 2) (gCons (gName 3) gNil))) (nearBd K)) (tRet (tVar 1)))
theorem upd_keep {H0 H' : Hp} {a : Addr} {o : HO} (k : ∀ b u, H0 b = some u → H' b = some u) (h : H0 a = none) : ∀ b u, H0 b = some u → upd H' a o b = some u := fun b u e => by
  rw [upd_ne (ne_of_none e h)]; exact k b u e
theorem get_app {α : Type} {l : List α} {a b : α} {j : Nat} (h : (l ++ [a])[j]? = some b) : (j < l.length ∧ l[j]? = some b) ∨ (j = l.length ∧ b = a) := by
  by_cases c : j < l.length
  · rw [List.getElem?_append_left c] at h; exact .inl ⟨c, h⟩
  · rw [List.getElem?_append_right (by omega)] at h
    by_cases d : j = l.length
    · subst d; simp at h; exact .inr ⟨rfl, h.symm⟩
    · rw [List.getElem?_eq_none (by simp; omega)] at h; cases h
/-- the pairs' list -/
theorem near_tl {r : TE} {σ : St} {H : Hp} {n : Nat} {Q : VK} (hn : n ≤ 64) (h4 : σ.length = 5) (hr : ∀ Q', Q' (.int (n : Int)) H → r σ H Q')
    (q : ∀ L ps D H', NI H H' L ps D → D.length = n → H L = none → L ∉ D → Q (.ref L) H') : nearTl r σ H Q := by
  refine hr _ ⟨(n : Int), rfl, by omega, by omega, fun L hL => ?_⟩
  have e0 : ((n : Int)).toNat = n := by omega
  rw [e0]
  refine lc_range (lo := 0) (n := n) (fun i H' => ∃ ps D, NI H H' L ps D ∧ D.length = i ∧ L ∉ D) ⟨[], [], ⟨(fun b o e => by rw [upd_ne (ne_of_none e hL)]; exact e), upd_same, rfl, (fun j t d h => by simp at h), (fun d h => by cases h), (fun d h => by cases h), List.nodup_nil⟩, rfl, by simp⟩ (fun i H' hi ⟨ps, D, I, hD, hLD⟩ => ?_) fun H' ⟨ps, D, I, hD, hLD⟩ => q L ps D H' I hD hL hLD
  refine ⟨by
    show wipe ((wipe σ [4]).set 4 (some (.int (0 + (i : Int))))) [4] = wipe σ [4]
    unfold wipe
    simp [wipe], ?_⟩
  dsimp only [tYes]
  refine iteT ?_
  -- (x, {})
  refine ⟨.int (0 + (i : Int)), by
    show ((wipe σ [4]).set 4 (some (.int (0 + (i : Int)))))[4]? = _
    rw [List.getElem?_set_self (by rw [wipe_length]; omega)], ?_⟩
  intro d hd
  refine ⟨by simp [sizeLine_eq], fun t ht => ?_⟩
  have htd : t ≠ d := fun z => by rw [z, upd_same] at ht; cases ht
  have ht0 : H' t = none := by rw [upd_ne htd] at ht; exact ht
  have hdL : L ≠ d := ne_of_none I.acc hd
  have htL : L ≠ t := ne_of_none I.acc ht0
  have fr : ∀ {x : Addr}, H' x = none → H x = none := fun {x} z => by
    cases q : H x with
    | none => rfl
    | some o => rw [I.keep x o q] at z; cases z
  have accL : upd (upd H' d (.dK [])) t (.tup [.int (0 + (i : Int)), .ref d]) L = some (.lst (ps.map V.ref)) := by rw [upd_ne htL, upd_ne hdL]; exact I.acc
  refine ⟨ps.map V.ref, accL, by rw [List.length_map, I.len, hD, sizeLine_eq]; omega, ps ++ [t], D ++ [d], ⟨?_, ?_, ?_, ?_, ?_, ?_, ?_⟩, by rw [List.length_append, hD]; rfl, ?_⟩
  · exact upd_keep (upd_keep (upd_keep I.keep (fr hd)) (fr ht0)) hL
  · rw [upd_same, List.map_append]; rfl
  · rw [List.length_append, List.length_append, I.len]; rfl
  · intro j t' d' h1 h2
    rcases get_app h1 with ⟨c, h1⟩ | ⟨rfl, rfl⟩
    · rcases get_app h2 with ⟨_, h2⟩ | ⟨c2, _⟩
      · have e := I.tup j t' d' h1 h2
        rw [upd_ne, upd_ne, upd_ne]
        · exact e
        · exact ne_of_none e hd
        · exact ne_of_none e ht0
        · exact fun z => by rw [z, I.acc] at e; cases e
      · exact absurd c2 (by rw [← I.len]; omega)
    · rcases get_app h2 with ⟨c, _⟩ | ⟨_, rfl⟩
      · exact absurd c (by rw [← I.len]; omega)
      · rw [upd_ne (Ne.symm htL), upd_same, I.len, hD, Int.zero_add]
  · intro d' h
    rcases List.mem_append.mp h with h | h
    · have e := I.dct d' h
      rw [upd_ne, upd_ne, upd_ne]
      · exact e
      · exact ne_of_none e hd
      · exact ne_of_none e ht0
      · exact fun z => hLD (by rw [← z]; exact h)
    · rw [List.mem_singleton.mp h, upd_ne (Ne.symm hdL), upd_ne (Ne.symm htd), upd_same]
  · intro d' h
    rcases List.mem_append.mp h with h | h
    · exact I.fr d' h
    · rw [List.mem_singleton.mp h]; exact fr hd
  · rw [List.nodup_append]
    refine ⟨I.nd, by simp, fun a ha b hb z => ?_⟩
    rw [List.mem_singleton.mp hb] at z
    rw [z] at ha
    have := I.dct d ha
    rw [hd] at this
    cases this
  · intro h
    rcases List.mem_append.mp h with h | h
    · exact hLD h
    · exact hdL (List.mem_singleton.mp h)
theorem paired_top {K : PySem.W.Frag} {H' : Hp} : ∀ (ps D : List Addr) (k : Nat), ps.length = D.length → (∀ (j : Nat) t d, ps[j]? = some t → D[j]? = some d → H' t = some (.tup [.int ((k + j : Nat) : Int), .ref d])) → Paired (fun p kv => SqT K H' p [kV kv.1, kv.2]) ps (topG k D)
  | [], [], _, _, _ => .nil
  | t :: ps, d :: D, k, h, q => .cons (SqT.of (q 0 t d rfl rfl)) (paired_top ps D (k + 1) (by simpa using h) fun j t' d' h1 h2 => by
    have := q (j + 1) t' d' (by simpa using h1) (by simpa using h2)
    rw [show k + (j + 1) = k + 1 + j by omega] at this
    exact this)
  | [], _ :: _, _, h, _ => by cases h
  | _ :: _, [], _, h, _ => by cases h
theorem NI.toJ {H0 H' : Hp} {L p : Addr} {ps D : List Addr} (I : NI H0 H' L ps D) (hp : H' p = none) : NJ H0 (upd H' p (.dK (topG 0 D))) p D (List.replicate D.length []) := by
  have h0 : H0 p = none := by
    cases q : H0 p with
    | none => rfl
    | some o => rw [I.keep p o q] at hp; cases hp
  refine ⟨upd_keep I.keep h0, upd_same, by rw [List.length_replicate], fun i d l h1 h2 => ?_, h0, I.fr, I.nd, fun h => by rw [I.dct p h] at hp; cases hp⟩
  rw [List.getElem?_replicate] at h2
  split at h2
  · cases h2
    have e := I.dct d (List.mem_of_getElem? h1)
    rw [upd_ne (ne_of_none e hp)]
    exact e
  · cases h2
theorem addKey_len (l : List Int) (b : Int) : (addKey l b).length ≤ l.length + 1 := by
  unfold addKey
  split
  · omega
  · rw [List.length_append]; simp
def RowsShort (R : List (List Int)) (k : Nat) : Prop := ∀ l ∈ R, l.length ≤ k
theorem short_mod {R : List (List Int)} {k a : Nat} {b : Int} (h : RowsShort R k) : RowsShort (R.modify a fun l => addKey l b) (k + 1) := by
  intro l hl
  obtain ⟨i, hi⟩ := List.mem_iff_getElem?.mp hl
  rw [List.getElem?_modify] at hi
  cases q : R[i]? with
  | none => rw [q] at hi; cases hi
  | some l0 =>
    rw [q] at hi
    have h0 := h l0 (List.mem_of_getElem? q)
    simp at hi
    subst hi
    split
    · have := addKey_len l0 b; omega
    · omega
/-- one pair of crossings -/
theorem near_bd {K : PySem.W.Frag} {D0 : Ends} {H0 H' : Hp} {p : Addr} {D : List Addr} {R : List (List Int)} {v : Option V} {a b : Nat} {k : Nat} (J : NJ H0 H' p D R) (ha : a < D.length) (hb : b < D.length) (hk : RowsShort R k) (hk2 : k + 1 < sizeLine)
    (q : ∀ H1, NJ H0 H1 p D (nearS R (a, b)) → RowsShort (nearS R (a, b)) (k + 2) → D0.nx [v, some (.ref p), some (.int a), some (.int b), none] H1) : nearBd K D0 [v, some (.ref p), some (.int a), some (.int b), none] H' := by
  refine ⟨.int a, rfl, .int b, rfl, rfl, _, rfl, ?_⟩
  have de : decide (V.int (a : Int) = V.int (b : Int)) = decide ((a : Int) = b) := by
    by_cases c : (a : Int) = b
    · rw [decide_eq_true c, c, decide_eq_true rfl]
    · rw [decide_eq_false c, decide_eq_false (fun z => c (V.int.inj z))]
  rw [de]
  by_cases c : (a : Int) = b
  · rw [decide_eq_true c]
    refine iteF ?_
    have e : nearS R ((a : Int), (b : Int)) = R := by unfold nearS; rw [if_pos c]
    exact q H' (by rw [e]; exact J) (by rw [e]; exact fun l hl => Nat.le_trans (hk l hl) (by omega))
  · rw [decide_eq_false c]
    refine iteT ?_
    have e : nearS R ((a : Int), (b : Int)) = (R.modify a fun l => addKey l b).modify b fun l => addKey l a := by
      unfold nearS
      rw [if_neg c]
      simp
    rw [e] at q
    -- (0, 0)
    refine ⟨by simp [sizeLine_eq], fun t ht => ?_⟩
    have J1 : NJ H0 (upd H' t (.tup [.int 0, .int 0])) p D R := by
      have nt : ∀ x o, H' x = some o → upd H' t (.tup [.int 0, .int 0]) x = some o := fun x o z => by rw [upd_ne (ne_of_none z ht)]; exact z
      exact ⟨fun x o z => nt x o (J.keep x o z), nt _ _ J.top, J.len, fun i d l h1 h2 => nt _ _ (J.row i d l h1 h2), J.fp, J.fr, J.nd, J.pD⟩
    refine ⟨t, _, rfl, SqT.of upd_same, rfl, ?_⟩
    generalize upd H' t (.tup [.int 0, .int 0]) = H1 at J1
    obtain ⟨da, hda⟩ : ∃ d, D[a]? = some d := ⟨_, List.getElem?_eq_getElem ha⟩
    obtain ⟨db, hdb⟩ : ∃ d, D[b]? = some d := ⟨_, List.getElem?_eq_getElem hb⟩
    have hla : ∃ l, R[a]? = some l := ⟨_, List.getElem?_eq_getElem (by rw [← J.len]; exact ha)⟩
    obtain ⟨la, hla⟩ := hla
    have g1 := topG_get D 0 a da hda
    rw [Nat.zero_add] at g1
    have g2 := topG_get D 0 b db hdb
    rw [Nat.zero_add] at g2
    have r1 := J1.row a da la hda hla
    have s1 := hk la (List.mem_of_getElem? hla)
    have e1 : R.getD a [] = la := by rw [List.getD_eq_getElem?_getD, hla]; rfl
    have J2 := J1.put (b := (b : Int)) hda
    rw [e1] at J2
    refine ⟨.int 0, [.int 0], rfl, ?_⟩
    refine ⟨.ref p, rfl, .int a, rfl, .inr (.inr ⟨p, .ref da, rfl, .inl ⟨_, .inl (a : Int), .inl J1.top, rfl, g1.symm⟩, ?_⟩)⟩
    refine ⟨.int b, rfl, da, _, rfl, .inl ⟨_, .inl (b : Int), r1, rfl, by unfold rowH; rw [List.length_map]; omega, rfl⟩, ?_⟩
    rw [rowH_put]
    generalize hH2 : upd H1 da (.dK (rowH (addKey la b))) = H2 at J2
    have hlb : ∃ l, (R.modify a fun l => addKey l b)[b]? = some l := ⟨_, List.getElem?_eq_getElem (by rw [List.length_modify, ← J.len]; exact hb)⟩
    obtain ⟨lb, hlb⟩ := hlb
    have r2 := J2.row b db lb hdb hlb
    have s2 := short_mod (a := a) (b := (b : Int)) hk lb (List.mem_of_getElem? hlb)
    have e2 : (R.modify a fun l => addKey l b).getD b [] = lb := by rw [List.getD_eq_getElem?_getD, hlb]; rfl
    have J3 := J2.put (b := (a : Int)) hdb
    rw [e2] at J3
    refine ⟨.int 0, [], rfl, ?_⟩
    refine ⟨.ref p, rfl, .int b, rfl, .inr (.inr ⟨p, .ref db, rfl, .inl ⟨_, .inl (b : Int), .inl J2.top, rfl, g2.symm⟩, ?_⟩)⟩
    refine ⟨.int a, rfl, db, _, rfl, .inl ⟨_, .inl (a : Int), r2, rfl, by unfold rowH; rw [List.length_map]; omega, rfl⟩, ?_⟩
    rw [rowH_put]
    exact ⟨rfl, q _ J3 (short_mod (short_mod hk))⟩
/-- the whole -/
theorem near_run {K : PySem.W.Frag} {H F : Hp} {Fm : Fr} {v : V} {Q : VK} (s : Sub F H) (hok : Fm.ok) (ao : Rp F v (frE Fm))
    (q : ∀ p H' F', Rp F' (.ref p) (nearD (nearR Fm)) → Sub F' H' → Sub F F' → (∀ b o, H b = some o → H' b = some o) → (∀ b, F' b ≠ none → F b ≠ none ∨ H b = none) → Q (.ref p) H') :
    tNear K { nx := fun _ H' => Q .non H', rt := Q } [some v, none, none, none, none] H := by
  unfold frE at ao
  cases ao with
  | tup f1 fz fr =>
  rename_i fa fxs
  cases fr with
  | cons fr0 fr =>
  cases fr0
  cases fr with
  | cons fr1 fr =>
  cases fr
  cases fr1 with
  | tup f2 fz2 fr2 =>
  rename_i ra rxs
  have hn := hok.1
  delta tNear tSeq tAsg tCB L2.tCons
  refine near_tl (n := Fm.n) hn rfl (fun Q' h => ⟨_, rfl, .inr (.inl ⟨fa, _, 0, _, rfl, rfl, SqT.of (s _ _ f1), rfl, h⟩)⟩) fun L ps D H1 I hD hL hLD => ?_
  refine ⟨L, ps, topG 0 D, rfl, SqL.of I.acc, paired_top ps D 0 I.len fun j t d h1 h2 => by rw [Nat.zero_add]; exact I.tup j t d h1 h2, fun p hp => ?_⟩
  have mg : mergeK [] (topG 0 D) = topG 0 D := (topG_merge D 0 [] (fun p hp => by cases hp)).trans (List.nil_append _)
  rw [mg]
  have J := I.toJ hp
  rw [hD] at J
  generalize upd H1 p (.dK (topG 0 D)) = H2 at J
  have kr : ∀ {H'}, (∀ b o, H b = some o → H' b = some o) → SqT K H' ra rxs := fun k => SqT.of (k _ _ (s _ _ f2))
  refine ⟨_, rfl, .inr (.inl ⟨fa, _, 1, _, rfl, rfl, SqT.of (J.keep _ _ (s _ _ f1)), rfl, ra, rfl, ⟨_, kr J.keep⟩, ?_⟩)⟩
  have rl : rxs.length = Fm.roads.length := by rw [fr2.len, List.length_map]
  refine ⟨fun i m σ H' => ∃ s2 s3, σ = [some (.ref fa), some (.ref p), s2, s3, none] ∧ i + m = Fm.roads.length ∧ NJ H H' p D ((Fm.roads.take i).foldl nearS (List.replicate Fm.n [])) ∧ RowsShort ((Fm.roads.take i).foldl nearS (List.replicate Fm.n [])) (2 * i),
    ⟨Fm.roads.length, none, none, rfl, by omega, J, fun l hl => by rw [(List.mem_replicate.mp hl).2]; exact Nat.zero_le _⟩, fun i m σ H3 hW => ?_⟩
  obtain ⟨s2, s3, rfl, em, J3, sh⟩ := hW
  have hA := kr J3.keep
  by_cases hi : i < Fm.roads.length
  · have gd : (Fm.roads.map en)[i]? = some (en Fm.roads[i]) := by rw [List.getElem?_map, List.getElem?_eq_getElem hi]; rfl
    obtain ⟨x, gx, rx⟩ := fr2.get gd
    have ri := hok.2.2 Fm.roads[i] (List.getElem_mem hi)
    obtain ⟨a, ea, ha⟩ := rng_nat ri.1
    obtain ⟨b, eb, hb⟩ := rng_nat ri.2
    have er : Fm.roads[i] = ((a : Int), (b : Int)) := Prod.ext ea eb
    rw [er] at rx
    refine .inr ⟨⟨_, _, hA, gx⟩, fun σ' H' => ∃ s2 s3, σ' = [some (.ref fa), some (.ref p), s2, s3, none] ∧ NJ H H' p D ((Fm.roads.take (i + 1)).foldl nearS (List.replicate Fm.n [])) ∧ RowsShort ((Fm.roads.take (i + 1)).foldl nearS (List.replicate Fm.n [])) (2 * (i + 1)), fun σ' H' hN => ?_, fun y H' hy => ?_⟩
    · obtain ⟨s2, s3, e1, e2, e3⟩ := hN
      exact ⟨m - 1, by omega, s2, s3, e1, by omega, e2, e3⟩
    · obtain ⟨rfl, fy⟩ := hy
      obtain rfl : y = x := Option.some.inj ((fy _ hA).symm.trans gx)
      have rx : Rp F y (.tuple [.int a, .int b]) := rx
      cases rx with
      | tup x1 xz xr =>
      rename_i xa xxs
      cases xr with
      | cons xr0 xr =>
      cases xr0
      cases xr with
      | cons xr1 xr =>
      cases xr
      cases xr1
      refine ⟨xa, _, rfl, SqT.of (J3.keep _ _ (s _ _ x1)), rfl, .int a, _, rfl, .int b, _, rfl, rfl, ?_⟩
      have et : (Fm.roads.take (i + 1)).foldl nearS (List.replicate Fm.n []) = nearS ((Fm.roads.take i).foldl nearS (List.replicate Fm.n [])) ((a : Int), (b : Int)) := by
        rw [List.take_add_one, List.getElem?_eq_getElem hi, List.foldl_append, er]
        rfl
      refine near_bd J3 (by omega) (by omega) sh (by have := hok.2.1; rw [sizeLine_eq]; omega) fun H4 J4 sh4 => ⟨_, _, rfl, by rw [et]; exact J4, by rw [et]; exact sh4⟩
  · refine .inl ⟨⟨_, hA, by rw [rl]; omega⟩, ?_⟩
    rw [List.take_of_length_le (by omega)] at J3
    refine ⟨.ref p, rfl, ?_⟩
    obtain ⟨F', z1, z2, z3, z4⟩ := J3.fin s
    exact q p H3 F' z1 z2 z3 J3.keep z4
end Dn

set_option Elab.async false
set_option linter.all false
set_option maxRecDepth 100000
set_option maxHeartbeats 4000000
/-! RepP: what may be shown. -/
namespace Dn
open PySem PySem.Spec PyProof.Rows L2

class EncW (α : Type) [DecidableEq α] [Enc α] where
  wt : α → Nat
  tm : α → Prop
  wle : ∀ a, tm a → (en a).weight ≤ wt a
  sh : ∀ a, tm a → (en a).showable = true
  is : ∀ a, tm a → (en a).intsShort 13 = true
theorem repOk {d : PyData} (h1 : d.canLay0 = true) (h2 : d.depth ≤ 30) (h3 : d.weight ≤ 1000000) (h4 : d.showable = true) (h5 : d.intsShort 13 = true) : RepOk d := by
  refine ⟨h4, PyData.hasDict_of_canLay d h1, h2, ?_⟩
  have := PyData.shown_le 13 (by decide) d (PyData.leavesShort_of_canLay0 13 d h1 h5)
  rw [sizeLine_eq]
  omega
instance : EncW Int where
  wt := fun _ => 41
  tm := fun i => i.natAbs < 10 ^ 12
  wle := fun i h => by
    show (PyData.int i).weight ≤ 41
    simp only [PyData.weight]
    split
    · omega
    · rename_i c
      have c0 : i.natAbs ≠ 0 := fun z => c (by simp; omega)
      have : i.natAbs.log2 < 40 := (Nat.log2_lt c0).mpr (Nat.lt_of_lt_of_le h (by decide))
      omega
  sh := fun i h => by
    show (PyData.int i).showable = true
    simp only [PyData.showable, decide_eq_true_eq]
    by_cases c0 : i.natAbs = 0
    · rw [c0]; decide
    · exact Nat.lt_of_lt_of_le ((Nat.log2_lt c0).mpr (Nat.lt_of_lt_of_le h (show 10 ^ 12 ≤ 2 ^ 40 by decide))) (by decide)
  is := fun i h => by
    show (PyData.int i).intsShort 13 = true
    simp only [PyData.intsShort, PyData.shown]
    refine decide_eq_true ?_
    rw [PySem.ofString_length]
    exact int_text_length_le10 (by decide) h
section
variable {α β : Type} [DecidableEq α] [DecidableEq β] [Enc α] [Enc β] [EncW α] [EncW β]
def wtL (l : List α) : Nat := (l.map fun a => EncW.wt a + 1).sum
theorem wAll : ∀ l : List α, (∀ a ∈ l, EncW.tm a) → PyData.weightAll (l.map en) ≤ wtL l
  | [], _ => by simp [wtL, PyData.weightAll]
  | a :: l, h => by
    have h1 := EncW.wle a (h a (List.mem_cons_self ..))
    have h2 := wAll l fun b hb => h b (List.mem_cons_of_mem _ hb)
    rw [List.map_cons]
    simp only [PyData.weightAll]
    show _ ≤ (EncW.wt a + 1) + wtL l
    omega
theorem sAll : ∀ l : List α, (∀ a ∈ l, EncW.tm a) → PyData.showableAll (l.map en) = true
  | [], _ => by simp [PyData.showableAll]
  | a :: l, h => by
    rw [List.map_cons]
    simp only [PyData.showableAll, Bool.and_eq_true]
    exact ⟨EncW.sh a (h a (List.mem_cons_self ..)), sAll l fun b hb => h b (List.mem_cons_of_mem _ hb)⟩
theorem iAll : ∀ l : List α, (∀ a ∈ l, EncW.tm a) → PyData.intsShortAll 13 (l.map en) = true
  | [], _ => by simp [PyData.intsShortAll]
  | a :: l, h => by
    rw [List.map_cons]
    simp only [PyData.intsShortAll, Bool.and_eq_true]
    exact ⟨EncW.is a (h a (List.mem_cons_self ..)), iAll l fun b hb => h b (List.mem_cons_of_mem _ hb)⟩
instance : EncW (Tp α) where
  wt := fun l => wtL (α := α) l
  tm := fun l => ∀ a ∈ (show List α from l), EncW.tm a
  wle := fun l h => by
    show (PyData.tuple (List.map en l)).weight ≤ _
    simp only [PyData.weight]
    exact wAll l h
  sh := fun l h => by
    show (PyData.tuple (List.map en l)).showable = true
    simp only [PyData.showable]
    exact sAll l h
  is := fun l h => by
    show (PyData.tuple (List.map en l)).intsShort 13 = true
    simp only [PyData.intsShort]
    exact iAll l h
instance : EncW (Ls α) where
  wt := fun l => wtL (α := α) l
  tm := fun l => ∀ a ∈ (show List α from l), EncW.tm a
  wle := fun l h => by
    show (PyData.list (List.map en l)).weight ≤ _
    simp only [PyData.weight]
    exact wAll l h
  sh := fun l h => by
    show (PyData.list (List.map en l)).showable = true
    simp only [PyData.showable]
    exact sAll l h
  is := fun l h => by
    show (PyData.list (List.map en l)).intsShort 13 = true
    simp only [PyData.intsShort]
    exact iAll l h
instance : EncW (α × β) where
  wt := fun p => EncW.wt p.1 + EncW.wt p.2 + 2
  tm := fun p => EncW.tm p.1 ∧ EncW.tm p.2
  wle := fun p h => by
    show (PyData.tuple [en p.1, en p.2]).weight ≤ _
    have h1 := EncW.wle p.1 h.1
    have h2 := EncW.wle p.2 h.2
    simp only [PyData.weight, PyData.weightAll]
    omega
  sh := fun p h => by
    show (PyData.tuple [en p.1, en p.2]).showable = true
    simp only [PyData.showable, PyData.showableAll, Bool.and_eq_true]
    exact ⟨EncW.sh p.1 h.1, EncW.sh p.2 h.2, trivial⟩
  is := fun p h => by
    show (PyData.tuple [en p.1, en p.2]).intsShort 13 = true
    simp only [PyData.intsShort, PyData.intsShortAll, Bool.and_eq_true]
    exact ⟨EncW.is p.1 h.1, EncW.is p.2 h.2, trivial⟩
theorem rep_en (a : α) (h : EncW.tm a) (hw : EncW.wt a ≤ 1000000) (hd : Enc.dp α ≤ 30 := by decide) : RepOk (en a) :=
  repOk (Enc.lay a) (Nat.le_trans (Enc.dep a) hd) (Nat.le_trans (EncW.wle a h) hw) (EncW.sh a h) (EncW.is a h)
theorem wtL_le {l : List α} {k : Nat} (h : ∀ a ∈ l, EncW.wt a ≤ k) : wtL l ≤ l.length * (k + 1) := by
  induction l with
  | nil => simp [wtL]
  | cons a l ih =>
    have h1 := h a (List.mem_cons_self ..)
    have h2 := ih fun b hb => h b (List.mem_cons_of_mem _ hb)
    show (EncW.wt a + 1) + wtL l ≤ _
    rw [List.length_cons, Nat.succ_mul]
    omega
end
theorem gRepr_of {d : PyData} (h : RepOk d) : gRepr [d] = some (.im (.str d.shown)) := by
  show (if RepOk d then _ else none) = _
  rw [if_pos h]
theorem rep_bool (b : Bool) : RepOk (.bool b) := by
  refine ⟨by cases b <;> simp [PyData.showable], by cases b <;> simp [PyData.hasDict], by simp [PyData.depth], ?_⟩
  rw [sizeLine_eq]
  cases b <;> simp only [PyData.shown] <;> decide
/-- a text against itself -/
@[simp] theorem gNe_str (x y : Str) : gNe (.str x) (.str y) = some (.im (.bool (!(x == y)))) := rfl
@[simp] theorem gEq_str (x y : Str) : gEq (.str x) (.str y) = some (.im (.bool (x == y))) := rfl
end Dn

set_option Elab.async false
set_option linter.all false
set_option maxRecDepth 100000
set_option maxHeartbeats 4000000
namespace Dn
open PySem PySem.Spec PyProof.Rows L2
def topS (i : Nat) : Stmt := PySem.Challenge.pw_peelings_k57_whole_perfect_crossings_and.main.body.getD i (.Pass ⟨0, 0, 0, 0⟩)
def rest_of_lot_c1 : SE := eLc (itR (aCons (eVar 0) (aNil))) [2] (gNm 2) (ofE (eBin (gInS true) (eVar 2) (eVar 1))) (eVar 2)
abbrev st_rest_of_lot : Stmt := topS 1
theorem sc_rest_of_lot : FnScope ["m", "lot", "thing"] ["m", "lot"] (defScope st_rest_of_lot) := ⟨rfl, rfl, rfl, by decide +kernel, rfl, by decide +kernel, by decide +kernel⟩
def sem_rest_of_lot : SS := sRet (eB (g1 gTuple) (aCons ((rest_of_lot_c1)) (aNil)))
theorem cal_rest_of_lot {P : Program} {w : World} {K : PySem.W.Frag} {mg : Str → Option Value} {base : Heap} {f : Addr} {fd : FuncData} (D : Df K mg "rest_of_lot" st_rest_of_lot ["m", "lot"] f fd) (z_range : mg "range" = none) (z_tuple : mg "tuple" = none) : Cal P w K mg base 1 "rest_of_lot" 2 (fnD 3 (sem_rest_of_lot)) :=
  cal_of (k := 0) D sc_rest_of_lot fun cdv A outer s H E hG hr => dOne (dRet (dBn bTuple (by rfl) z_tuple (dA (dLc (own := [("thing", 2)]) (vs := [2]) rfl sc_rest_of_lot.nd (PI.ac (dItR1 (by rfl) z_range (dVar (pv 0)))) (blkOk_by (N := ["m", "lot", "thing"]) (sc := defScope st_rest_of_lot) (by decide +kernel)) rfl (by decide) (gow_nm) (fun _ _ _ _ _ => dGn (i := 2) sc_rest_of_lot.nd rfl (by first | exact .inl rfl | exact .inr rfl | exact .inr (.inl rfl) | exact .inr (.inr rfl))) (fun _ _ _ _ _ => dTs1 (dCmT (oNi hr) (dVar (pv 2)) (dVar (pv 1)))) (fun _ _ _ _ _ => dVar (pv 2))) (dA0))))
def neighbours_in_c1 : SE := eLc (itE (eVar 1)) [6] (gNm 6) (ofE (eBin (gInS false) (eVar 6) (eVar 3))) (eVar 6)
def neighbours_in_f1 : SS := sFor (itF (eBin gIx (eVar 0) (eC (.int 1)))) (gTp (gsCons (gNm 4) (gsCons (gNm 5) (gsNil)))) (sIf (sAnd (ofE (eBin gNe (eVar 4) (eVar 5))) (ofE (eBin (gInS false) (eVar 2) (eTup (aCons (eVar 4) (aCons (eVar 5) (aNil))))))) (sExpr (eOwn 3 oAppend (aCons (eIf (ofE (eBin gEq (eVar 4) (eVar 2))) (eVar 5) (eVar 4)) (aNil)))) (sNil))
abbrev st_neighbours_in : Stmt := topS 3
theorem sc_neighbours_in : FnScope ["frame", "lot", "crossing", "found", "a", "b", "one"] ["frame", "lot", "crossing"] (defScope st_neighbours_in) := ⟨rfl, rfl, rfl, by decide +kernel, rfl, by decide +kernel, by decide +kernel⟩
def sem_neighbours_in : SS := sSeq (sSet 3 (eLst (aNil))) (sSeq ((neighbours_in_f1)) (sRet (eB (g1 gTuple) (aCons ((neighbours_in_c1)) (aNil)))))
theorem cal_neighbours_in {P : Program} {w : World} {K : PySem.W.Frag} {mg : Str → Option Value} {base : Heap} {f : Addr} {fd : FuncData} (D : Df K mg "neighbours_in" st_neighbours_in ["frame", "lot", "crossing"] f fd) (z_tuple : mg "tuple" = none) : Cal P w K mg base 1 "neighbours_in" 3 (fnD 7 (sem_neighbours_in)) :=
  cal_of (k := 0) D sc_neighbours_in fun cdv A outer s H E hG hr => dSeq (dSet (i := 3) sc_neighbours_in.nd rfl (by first | exact .inl rfl | exact .inr rfl | exact .inr (.inl rfl) | exact .inr (.inr rfl)) (dLst (dA0))) (dSeq (dFor PassesOwn.never rfl (dItF (dIx hr (dVar (pv 0)) (dInt))) (dGt rfl (dG1 (dGn (i := 4) sc_neighbours_in.nd rfl (by first | exact .inl rfl | exact .inr rfl | exact .inr (.inl rfl) | exact .inr (.inr rfl))) (dG1 (dGn (i := 5) sc_neighbours_in.nd rfl (by first | exact .inl rfl | exact .inr rfl | exact .inr (.inl rfl) | exact .inr (.inr rfl))) (dG0))) (gl1 (gl1 (gl0)))) (dOne (dIfS (PW.pt (dAnd (dCmT (oNe hr) (dVar (pv 4)) (dVar (pv 5))) (dAnd1 (dCmT (oIn hr) (dVar (pv 2)) (dTup (dA (dVar (pv 4)) (dA (dVar (pv 5)) (dA0)))))))) (dOne (dExpr (dAppend (pv 3) (dA (dIf (dCmT (oEq hr) (dVar (pv 4)) (dVar (pv 2))) (dVar (pv 5)) (dVar (pv 4))) (dA0))))) (dSNil)))) (dOne (dRet (dBn bTuple (by rfl) z_tuple (dA (dLc (own := [("one", 6)]) (vs := [6]) rfl sc_neighbours_in.nd (dItC (dVar (pv 1))) (blkOk_by (N := ["frame", "lot", "crossing", "found", "a", "b", "one"]) (sc := defScope st_neighbours_in) (by decide +kernel)) rfl (by decide) (gow_nm) (fun _ _ _ _ _ => dGn (i := 6) sc_neighbours_in.nd rfl (by first | exact .inl rfl | exact .inr rfl | exact .inr (.inl rfl) | exact .inr (.inr rfl))) (fun _ _ _ _ _ => dTs1 (dCmT (oIn hr) (dVar (pv 6)) (dVar (pv 3)))) (fun _ _ _ _ _ => dVar (pv 6))) (dA0))))))
def are_all_neighbours_c1 (m_neighbours_in : FS) : SE := eLc (itE (eVar 1)) [2] (gNm 2) (ofE (eBin gLt (eB (g1 gLen) (aCons (eCall 3 m_neighbours_in (aCons (eVar 0) (aCons (eVar 1) (aCons (eVar 2) (aNil))))) (aNil))) (eBin gSub (eB (g1 gLen) (aCons (eVar 1) (aNil))) (eC (.int 1))))) (eVar 2)
abbrev st_are_all_neighbours : Stmt := topS 4
theorem sc_are_all_neighbours : FnScope ["frame", "lot", "one"] ["frame", "lot"] (defScope st_are_all_neighbours) := ⟨rfl, rfl, rfl, by decide +kernel, rfl, by decide +kernel, by decide +kernel⟩
def sem_are_all_neighbours (m_neighbours_in : FS) : SS := sRet (eBin gEq ((are_all_neighbours_c1 m_neighbours_in)) (eLst (aNil)))
theorem cal_are_all_neighbours {P : Program} {w : World} {K : PySem.W.Frag} {mg : Str → Option Value} {base : Heap} {f : Addr} {fd : FuncData} (D : Df K mg "are_all_neighbours" st_are_all_neighbours ["frame", "lot"] f fd) {m_neighbours_in : FS} (c_neighbours_in : Cal P w K mg base 1 "neighbours_in" 3 m_neighbours_in) (z_len : mg "len" = none) : Cal P w K mg base 2 "are_all_neighbours" 2 (fnD 3 (sem_are_all_neighbours m_neighbours_in)) :=
  cal_of (k := 1) D sc_are_all_neighbours fun cdv A outer s H E hG hr => dOne (dRet (dCm (oEq hr) (dLc (own := [("one", 2)]) (vs := [2]) rfl sc_are_all_neighbours.nd (dItC (dVar (pv 1))) (blkOk_by (N := ["frame", "lot", "one"]) (sc := defScope st_are_all_neighbours) (by decide +kernel)) rfl (by decide) (gow_nm) (fun _ _ _ _ _ => dGn (i := 2) sc_are_all_neighbours.nd rfl (by first | exact .inl rfl | exact .inr rfl | exact .inr (.inl rfl) | exact .inr (.inr rfl))) (fun _ _ _ _ _ => dTs1 (dCmT oLt (dBn bLen (by rfl) z_len (dA (dCal (c_neighbours_in.mono (by decide)) hG hr (by rfl) (dA (dVar (pv 0)) (dA (dVar (pv 1)) (dA (dVar (pv 2)) (dA0))))) (dA0))) (dSub (dBn bLen (by rfl) z_len (dA (dVar (pv 1)) (dA0))) (dInt)))) (fun _ _ _ _ _ => dVar (pv 2))) (dLst (dA0))))
abbrev st_is_perfect_in : Stmt := topS 5
theorem sc_is_perfect_in : FnScope ["frame", "lot", "crossing"] ["frame", "lot", "crossing"] (defScope st_is_perfect_in) := ⟨rfl, rfl, rfl, by decide +kernel, rfl, by decide +kernel, by decide +kernel⟩
def sem_is_perfect_in (m_neighbours_in : FS) (m_are_all_neighbours : FS) : SS := sRet (eCall 2 m_are_all_neighbours (aCons (eVar 0) (aCons (eCall 3 m_neighbours_in (aCons (eVar 0) (aCons (eVar 1) (aCons (eVar 2) (aNil))))) (aNil))))
theorem cal_is_perfect_in {P : Program} {w : World} {K : PySem.W.Frag} {mg : Str → Option Value} {base : Heap} {f : Addr} {fd : FuncData} (D : Df K mg "is_perfect_in" st_is_perfect_in ["frame", "lot", "crossing"] f fd) {m_neighbours_in : FS} (c_neighbours_in : Cal P w K mg base 1 "neighbours_in" 3 m_neighbours_in) {m_are_all_neighbours : FS} (c_are_all_neighbours : Cal P w K mg base 2 "are_all_neighbours" 2 m_are_all_neighbours) : Cal P w K mg base 3 "is_perfect_in" 3 (fnD 3 (sem_is_perfect_in m_neighbours_in m_are_all_neighbours)) :=
  cal_of (k := 2) D sc_is_perfect_in fun cdv A outer s H E hG hr => dOne (dRet (dCal (c_are_all_neighbours.mono (by decide)) hG hr (by rfl) (dA (dVar (pv 0)) (dA (dCal (c_neighbours_in.mono (by decide)) hG hr (by rfl) (dA (dVar (pv 0)) (dA (dVar (pv 1)) (dA (dVar (pv 2)) (dA0))))) (dA0)))))
def taking_sequence_c1 (m_is_perfect_in : FS) (m_rest_of_lot : FS) : SE := eLc (itE (eVar 2)) [4] (gNm 4) (ofE (eCall 3 m_is_perfect_in (aCons (eVar 0) (aCons (eVar 2) (aCons (eVar 4) (aNil)))))) (eVar 4)
def taking_sequence_w1 (m_is_perfect_in : FS) (m_rest_of_lot : FS) : SS := sWh (ofE (eBin gNe (eVar 3) (eLst (aNil)))) (sSeq (sSet 1 (eTup (aStar (eVar 1) (aCons (eBin gIx (eVar 3) (eC (.int 0))) (aNil))))) (sSeq (sSet 2 (eCall 2 m_rest_of_lot (aCons (eBin gIx (eVar 0) (eC (.int 0))) (aCons (eVar 1) (aNil))))) (sSet 3 (eFz ((taking_sequence_c1 m_is_perfect_in m_rest_of_lot))))))
def taking_sequence_c2 (m_is_perfect_in : FS) (m_rest_of_lot : FS) : SE := eLc (itE (eVar 2)) [4] (gNm 4) (ofE (eCall 3 m_is_perfect_in (aCons (eVar 0) (aCons (eVar 2) (aCons (eVar 4) (aNil)))))) (eVar 4)
abbrev st_taking_sequence : Stmt := topS 6
theorem sc_taking_sequence : FnScope ["frame", "found", "left", "some", "one"] ["frame"] (defScope st_taking_sequence) := ⟨rfl, rfl, rfl, by decide +kernel, rfl, by decide +kernel, by decide +kernel⟩
def sem_taking_sequence (m_is_perfect_in : FS) (m_rest_of_lot : FS) : SS := sSeq (sPar [1, 2] (aCons (eTup (aNil)) (aCons (eRgT (aCons (eBin gIx (eVar 0) (eC (.int 0))) aNil)) (aNil)))) (sSeq (sSet 3 (eFz ((taking_sequence_c2 m_is_perfect_in m_rest_of_lot)))) (sSeq ((taking_sequence_w1 m_is_perfect_in m_rest_of_lot)) (sRet (eVar 1))))
theorem cal_taking_sequence {P : Program} {w : World} {K : PySem.W.Frag} {mg : Str → Option Value} {base : Heap} {f : Addr} {fd : FuncData} (D : Df K mg "taking_sequence" st_taking_sequence ["frame"] f fd) {m_is_perfect_in : FS} (c_is_perfect_in : Cal P w K mg base 3 "is_perfect_in" 3 m_is_perfect_in) {m_rest_of_lot : FS} (c_rest_of_lot : Cal P w K mg base 1 "rest_of_lot" 2 m_rest_of_lot) (z_tuple : mg "tuple" = none) (z_range : mg "range" = none) : Cal P w K mg base 4 "taking_sequence" 1 (fnD 5 (sem_taking_sequence m_is_perfect_in m_rest_of_lot)) :=
  cal_of (k := 3) D sc_taking_sequence fun cdv A outer s H E hG hr => dSeq (dParC (is := [1, 2]) rfl (pgs_cons (pg_name (i := 1) sc_taking_sequence.nd rfl (by first | exact .inl rfl | exact .inr rfl | exact .inr (.inl rfl) | exact .inr (.inr rfl))) (pgs_cons (pg_name (i := 2) sc_taking_sequence.nd rfl (by first | exact .inl rfl | exact .inr rfl | exact .inr (.inl rfl) | exact .inr (.inr rfl))) (pgs_nil))) (dA (dTup (dA0)) (dA (dRgT1 rfl (by rfl) z_tuple (by rfl) z_range (dIx hr (dVar (pv 0)) (dInt))) (dA0)))) (dSeq (dSetLcF (i := 3) (own := [("one", 4)]) (vs := [4]) rfl sc_taking_sequence.nd rfl rfl (sw_true rfl rfl rfl rfl) (dItC (dVar (pv 2))) (blkOk_by (N := ["frame", "found", "left", "some", "one"]) (sc := defScope st_taking_sequence) (by decide +kernel)) rfl (by decide) (gow_nm) (fun _ _ _ _ _ => dGn (i := 4) sc_taking_sequence.nd rfl (by first | exact .inl rfl | exact .inr rfl | exact .inr (.inl rfl) | exact .inr (.inr rfl))) (fun _ _ _ _ _ => dTs1 (dTst (dCal (c_is_perfect_in.mono (by decide)) hG hr (by rfl) (dA (dVar (pv 0)) (dA (dVar (pv 2)) (dA (dVar (pv 4)) (dA0))))))) (fun _ _ _ _ _ => dVar (pv 4))) (dSeq (dWhile PassesOwn.never (dCmT (oNe hr) (dVar (pv 3)) (dLst (dA0))) (dSeq (dSet (i := 1) sc_taking_sequence.nd rfl (by first | exact .inl rfl | exact .inr rfl | exact .inr (.inl rfl) | exact .inr (.inr rfl)) (dTup (dAS (dVar (pv 1)) (dA (dIx hr (dVar (pv 3)) (dInt)) (dA0))))) (dSeq (dSet (i := 2) sc_taking_sequence.nd rfl (by first | exact .inl rfl | exact .inr rfl | exact .inr (.inl rfl) | exact .inr (.inr rfl)) (dCal (c_rest_of_lot.mono (by decide)) hG hr (by rfl) (dA (dIx hr (dVar (pv 0)) (dInt)) (dA (dVar (pv 1)) (dA0))))) (dOne (dSetLcF (i := 3) (own := [("one", 4)]) (vs := [4]) rfl sc_taking_sequence.nd rfl rfl (sw_true rfl rfl rfl rfl) (dItC (dVar (pv 2))) (blkOk_by (N := ["frame", "found", "left", "some", "one"]) (sc := defScope st_taking_sequence) (by decide +kernel)) rfl (by decide) (gow_nm) (fun _ _ _ _ _ => dGn (i := 4) sc_taking_sequence.nd rfl (by first | exact .inl rfl | exact .inr rfl | exact .inr (.inl rfl) | exact .inr (.inr rfl))) (fun _ _ _ _ _ => dTs1 (dTst (dCal (c_is_perfect_in.mono (by decide)) hG hr (by rfl) (dA (dVar (pv 0)) (dA (dVar (pv 2)) (dA (dVar (pv 4)) (dA0))))))) (fun _ _ _ _ _ => dVar (pv 4))))))) (dOne (dRet (dVar (pv 1))))))
abbrev st_core_of : Stmt := topS 7
theorem sc_core_of : FnScope ["frame"] ["frame"] (defScope st_core_of) := ⟨rfl, rfl, rfl, by decide +kernel, rfl, by decide +kernel, by decide +kernel⟩
def sem_core_of (m_taking_sequence : FS) (m_rest_of_lot : FS) : SS := sRet (eCall 2 m_rest_of_lot (aCons (eBin gIx (eVar 0) (eC (.int 0))) (aCons (eCall 1 m_taking_sequence (aCons (eVar 0) (aNil))) (aNil))))
theorem cal_core_of {P : Program} {w : World} {K : PySem.W.Frag} {mg : Str → Option Value} {base : Heap} {f : Addr} {fd : FuncData} (D : Df K mg "core_of" st_core_of ["frame"] f fd) {m_taking_sequence : FS} (c_taking_sequence : Cal P w K mg base 4 "taking_sequence" 1 m_taking_sequence) {m_rest_of_lot : FS} (c_rest_of_lot : Cal P w K mg base 1 "rest_of_lot" 2 m_rest_of_lot) : Cal P w K mg base 5 "core_of" 1 (fnD 1 (sem_core_of m_taking_sequence m_rest_of_lot)) :=
  cal_of (k := 4) D sc_core_of fun cdv A outer s H E hG hr => dOne (dRet (dCal (c_rest_of_lot.mono (by decide)) hG hr (by rfl) (dA (dIx hr (dVar (pv 0)) (dInt)) (dA (dCal (c_taking_sequence.mono (by decide)) hG hr (by rfl) (dA (dVar (pv 0)) (dA0))) (dA0)))))
def _law_pick_w1 : SS := sWh (sAnd (ofE (eBin gGt (eVar 1) (eC (.int 1)))) (sAnd (ofE (eBin gLt (eSg 0 .left) (eC (.int 2)))) (ofE (eBin gGt (eSlen 0) (eC (.int 0)))))) (sSput 0 .left (eSpop 0))
abbrev st__law_pick : Stmt := topS 10
theorem sc__law_pick : FnScope ["source", "many", "left", "mixed"] ["source", "many"] (defScope st__law_pick) := ⟨rfl, rfl, rfl, by decide +kernel, rfl, by decide +kernel, by decide +kernel⟩
def sem__law_pick : SS := sSeq ((_law_pick_w1)) (sSeq (sSet 2 (eSg 0 .left)) (sSeq (sIf (sOr (ofE (eBin gLt (eVar 1) (eC (.int 2)))) (ofE (eBin gGt (eVar 2) (eC (.int 1))))) (sSeq (sSput 0 .left (eBin gDiv (eVar 2) (eB (g2 gMax2) (aCons (eC (.int 1)) (aCons (eVar 1) (aNil)))))) (sRet (eBin gMod (eB (g1 gInt) (aCons (eVar 2) (aNil))) (eB (g2 gMax2) (aCons (eC (.int 1)) (aCons (eVar 1) (aNil))))))) (sNil)) (sSeq (sSput 0 .turn (eBin gAdd (eSg 0 .turn) (eC (.int 1)))) (sSeq (sSet 3 (eFz (eBin gMod (eB (g1 gInt) (aCons (eBin gAdd (eSg 0 .mixed) (eBin gMul (eSg 0 .turn) (eC (.int 104729)))) (aNil))) (eC (.int 998244353))))) (sSeq (sSet 3 (eFz (eBin gMod (eB (g1 gInt) (aCons (eBin gAdd (eBin gMul (eVar 3) (eVar 3)) (eBin gMul (eSg 0 .turn) (eC (.int 17)))) (aNil))) (eC (.int 2147483647))))) (sSeq (sSput 0 .mixed (eVar 3)) (sRet (eBin gMod (eB (g1 gInt) (aCons (eBin gDiv (eVar 3) (eC (.int 16))) (aNil))) (eVar 1)))))))))
theorem cal__law_pick {P : Program} {w : World} {K : PySem.W.Frag} {mg : Str → Option Value} {base : Heap} {f : Addr} {fd : FuncData} (D : Df K mg "_law_pick" st__law_pick ["source", "many"] f fd) (z_int : mg "int" = none) (z_max : mg "max" = none) (z_len : mg "len" = none) : Cal P w K mg base 1 "_law_pick" 2 (fnD 4 (sem__law_pick)) :=
  cal_of (k := 0) D sc__law_pick fun cdv A outer s H E hG hr => dSeq (dWhile PassesOwn.never (PW.pt (dAnd (dCmT oGt (dVar (pv 1)) (dInt)) (dAnd (dCmT oLt (dSg .left (hu_of hr) (pv 0)) (dInt)) (dAnd1 (dCmT oGt (dSlen (hu_of hr) (by rfl) z_len (pv 0)) (dInt)))))) (dOne (dSput .left (hu_of hr) (pv 0) (dSpop (hu_of hr) (pv 0))))) (dSeq (dSet (i := 2) sc__law_pick.nd rfl (by first | exact .inl rfl | exact .inr rfl | exact .inr (.inl rfl) | exact .inr (.inr rfl)) (dSg .left (hu_of hr) (pv 0))) (dSeq (dIfS (PW.pt (dOr (dCmT oLt (dVar (pv 1)) (dInt)) (dOr1 (dCmT oGt (dVar (pv 2)) (dInt))))) (dSeq (dSput .left (hu_of hr) (pv 0) (dDiv (dVar (pv 2)) (dBn (bMax2 rfl) (by rfl) z_max (dA (dInt) (dA (dVar (pv 1)) (dA0)))))) (dOne (dRet (dMod (dBn bInt (by rfl) z_int (dA (dVar (pv 2)) (dA0))) (dBn (bMax2 rfl) (by rfl) z_max (dA (dInt) (dA (dVar (pv 1)) (dA0)))))))) (dSNil)) (dSeq (dSput .turn (hu_of hr) (pv 0) (dAdd (dSg .turn (hu_of hr) (pv 0)) (dInt))) (dSeq (dSet (i := 3) sc__law_pick.nd rfl (by first | exact .inl rfl | exact .inr rfl | exact .inr (.inl rfl) | exact .inr (.inr rfl)) (dFz (dMod (dBn bInt (by rfl) z_int (dA (dAdd (dSg .mixed (hu_of hr) (pv 0)) (dMul (dSg .turn (hu_of hr) (pv 0)) (dInt))) (dA0))) (dInt)))) (dSeq (dSet (i := 3) sc__law_pick.nd rfl (by first | exact .inl rfl | exact .inr rfl | exact .inr (.inl rfl) | exact .inr (.inr rfl)) (dFz (dMod (dBn bInt (by rfl) z_int (dA (dAdd (dMul (dVar (pv 3)) (dVar (pv 3))) (dMul (dSg .turn (hu_of hr) (pv 0)) (dInt))) (dA0))) (dInt)))) (dSeq (dSput .mixed (hu_of hr) (pv 0) (dVar (pv 3))) (dOne (dRet (dMod (dBn bInt (by rfl) z_int (dA (dDiv (dVar (pv 3)) (dInt)) (dA0))) (dVar (pv 1)))))))))))
abbrev st__law_of : Stmt := topS 11
theorem sc__law_of : FnScope ["source", "some"] ["source", "some"] (defScope st__law_of) := ⟨rfl, rfl, rfl, by decide +kernel, rfl, by decide +kernel, by decide +kernel⟩
def sem__law_of (m__law_pick : FS) : SS := sRet (eBin gIx (eVar 1) (eCall 2 m__law_pick (aCons (eVar 0) (aCons (eB (g1 gLen) (aCons (eVar 1) (aNil))) (aNil)))))
theorem cal__law_of {P : Program} {w : World} {K : PySem.W.Frag} {mg : Str → Option Value} {base : Heap} {f : Addr} {fd : FuncData} (D : Df K mg "_law_of" st__law_of ["source", "some"] f fd) {m__law_pick : FS} (c__law_pick : Cal P w K mg base 1 "_law_pick" 2 m__law_pick) (z_len : mg "len" = none) : Cal P w K mg base 2 "_law_of" 2 (fnD 2 (sem__law_of m__law_pick)) :=
  cal_of (k := 1) D sc__law_of fun cdv A outer s H E hG hr => dOne (dRet (dIx hr (dVar (pv 1)) (dCal (c__law_pick.mono (by decide)) hG hr (by rfl) (dA (dVar (pv 0)) (dA (dBn bLen (by rfl) z_len (dA (dVar (pv 1)) (dA0))) (dA0))))))
def _law_mixed_c1 (m__law_pick : FS) : SE := eLcO (itR (aCons (eB (g1 gLen) (aCons (eVar 2) (aNil))) (aNil))) [3] (gNm 3) (tYesS) (eOwn 2 oPopAt (aCons (eCall 2 m__law_pick (aCons (eVar 0) (aCons (eB (g1 gLen) (aCons (eVar 2) (aNil))) (aNil)))) (aNil)))
abbrev st__law_mixed : Stmt := topS 12
theorem sc__law_mixed : FnScope ["source", "things", "rest", "lap"] ["source", "things"] (defScope st__law_mixed) := ⟨rfl, rfl, rfl, by decide +kernel, rfl, by decide +kernel, by decide +kernel⟩
def sem__law_mixed (m__law_pick : FS) : SS := sSeq (sSet 2 (eB (g1 gList) (aCons (eVar 1) (aNil)))) (sRet ((_law_mixed_c1 m__law_pick)))
theorem cal__law_mixed {P : Program} {w : World} {K : PySem.W.Frag} {mg : Str → Option Value} {base : Heap} {f : Addr} {fd : FuncData} (D : Df K mg "_law_mixed" st__law_mixed ["source", "things"] f fd) {m__law_pick : FS} (c__law_pick : Cal P w K mg base 1 "_law_pick" 2 m__law_pick) (z_len : mg "len" = none) (z_range : mg "range" = none) (z_list : mg "list" = none) : Cal P w K mg base 2 "_law_mixed" 2 (fnD 4 (sem__law_mixed m__law_pick)) :=
  cal_of (k := 1) D sc__law_mixed fun cdv A outer s H E hG hr => dSeq (dSet (i := 2) sc__law_mixed.nd rfl (by first | exact .inl rfl | exact .inr rfl | exact .inr (.inl rfl) | exact .inr (.inr rfl)) (dBn bList (by rfl) z_list (dA (dVar (pv 1)) (dA0)))) (dOne (dRet (dLcO (own := [("lap", 3)]) (vs := [3]) rfl sc__law_mixed.nd ((dItR1 (by rfl) z_range (dBn bLen (by rfl) z_len (dA (dVar (pv 2)) (dA0))))) (blkOk_by (N := ["source", "things", "rest", "lap"]) (sc := defScope st__law_mixed) (by decide +kernel)) rfl (by decide) gkp_nm (fun _ _ _ _ _ => dGn (i := 3) sc__law_mixed.nd rfl (by first | exact .inl rfl | exact .inr rfl | exact .inr (.inl rfl) | exact .inr (.inr rfl))) (fun _ _ _ _ _ => dTs0) (fun _ _ _ _ _ => dPopAt (pv 2) (dA (dCal (c__law_pick.mono (by decide)) hG hr (by rfl) (dA (dVar (pv 0)) (dA (dBn bLen (by rfl) z_len (dA (dVar (pv 2)) (dA0))) (dA0)))) (dA0))))))
def _law_lots_c1 : SE := eLc (itE (eVar 1)) [3] (gNm 3) (tYesS) (eBin gAdd (eVar 3) (eTup (aCons (eVar 2) (aNil))))
def _law_lots_f1 : SS := sFor (itR (aCons (eVar 0) (aNil))) (gNm 2) (sSet 1 (eFz (eBin gAdd (eVar 1) ((_law_lots_c1)))))
abbrev st__law_lots : Stmt := topS 13
theorem sc__law_lots : FnScope ["m", "found", "x", "lot"] ["m"] (defScope st__law_lots) := ⟨rfl, rfl, rfl, by decide +kernel, rfl, by decide +kernel, by decide +kernel⟩
def sem__law_lots : SS := sSeq (sSet 1 (eFz (eLst (aCons (eTup (aNil)) (aNil))))) (sSeq ((_law_lots_f1)) (sRet (eB (g1 gSort) (aCons (eVar 1) (aNil)))))
theorem cal__law_lots {P : Program} {w : World} {K : PySem.W.Frag} {mg : Str → Option Value} {base : Heap} {f : Addr} {fd : FuncData} (D : Df K mg "_law_lots" st__law_lots ["m"] f fd) (z_sorted : mg "sorted" = none) (z_range : mg "range" = none) : Cal P w K mg base 1 "_law_lots" 1 (fnD 4 (sem__law_lots)) :=
  cal_of (k := 0) D sc__law_lots fun cdv A outer s H E hG hr => dSeq (dSet (i := 1) sc__law_lots.nd rfl (by first | exact .inl rfl | exact .inr rfl | exact .inr (.inl rfl) | exact .inr (.inr rfl)) (dFz (dLst (dA (dTup (dA0)) (dA0))))) (dSeq (dFor PassesOwn.never rfl (PI.af (dItR1 (by rfl) z_range (dVar (pv 0)))) (dGn (i := 2) sc__law_lots.nd rfl (by first | exact .inl rfl | exact .inr rfl | exact .inr (.inl rfl) | exact .inr (.inr rfl))) (dOne (dSet (i := 1) sc__law_lots.nd rfl (by first | exact .inl rfl | exact .inr rfl | exact .inr (.inl rfl) | exact .inr (.inr rfl)) (dFz (dAdd (dVar (pv 1)) (dLc (own := [("lot", 3)]) (vs := [3]) rfl sc__law_lots.nd (dItC (dVar (pv 1))) (blkOk_by (N := ["m", "found", "x", "lot"]) (sc := defScope st__law_lots) (by decide +kernel)) rfl (by decide) (gow_nm) (fun _ _ _ _ _ => dGn (i := 3) sc__law_lots.nd rfl (by first | exact .inl rfl | exact .inr rfl | exact .inr (.inl rfl) | exact .inr (.inr rfl))) (fun _ _ _ _ _ => dTs0) (fun _ _ _ _ _ => dAdd (dVar (pv 3)) (dTup (dA (dVar (pv 2)) (dA0)))))))))) (dOne (dRet (dBn (bSort rfl hr) (by rfl) z_sorted (dA (dVar (pv 1)) (dA0))))))
def _law_frame_f1 (m__law_pick : FS) (m__law_mixed : FS) : SS := sFor (itR (aCons (eCall 2 m__law_pick (aCons (eVar 0) (aCons (eBin gAdd (eVar 2) (eC (.int 1))) (aNil)))) (aNil))) (gNm 8) (sExpr (eOwn 4 oAppend (aCons (eTup (aCons (eBin gIx (eVar 5) (eCall 2 m__law_pick (aCons (eVar 0) (aCons (eVar 3) (aNil))))) (aCons (eBin gIx (eVar 5) (eCall 2 m__law_pick (aCons (eVar 0) (aCons (eVar 3) (aNil))))) (aNil)))) (aNil))))
def _law_frame_c1 (m__law_pick : FS) (m__law_mixed : FS) : SE := eLc (itR (aCons (eVar 6) (aNil))) [7] (gNm 7) (ofE (eBin gGt (eCall 2 m__law_pick (aCons (eVar 0) (aCons (eC (.int 3)) (aNil)))) (eC (.int 0)))) (eVar 7)
def _law_frame_f2 (m__law_pick : FS) (m__law_mixed : FS) : SS := sFor (itF ((_law_frame_c1 m__law_pick m__law_mixed))) (gNm 7) (sExpr (eOwn 4 oAppend (aCons (eTup (aCons (eBin gIx (eVar 5) (eVar 6)) (aCons (eBin gIx (eVar 5) (eVar 7)) (aNil)))) (aNil))))
def _law_frame_f3 (m__law_pick : FS) (m__law_mixed : FS) : SS := sFor (itR (aCons (eVar 3) (aNil))) (gNm 6) ((_law_frame_f2 m__law_pick m__law_mixed))
abbrev st__law_frame : Stmt := topS 14
theorem sc__law_frame : FnScope ["source", "most", "many", "n", "roads", "names", "x", "y", "lap"] ["source", "most", "many"] (defScope st__law_frame) := ⟨rfl, rfl, rfl, by decide +kernel, rfl, by decide +kernel, by decide +kernel⟩
def sem__law_frame (m__law_pick : FS) (m__law_mixed : FS) : SS := sSeq (sPar [3, 4] (aCons (eFz (eBin gAdd (eC (.int 1)) (eCall 2 m__law_pick (aCons (eVar 0) (aCons (eVar 1) (aNil)))))) (aCons (eLst (aNil)) (aNil)))) (sSeq (sSet 5 (eCall 2 m__law_mixed (aCons (eVar 0) (aCons (eRgL (aCons (eVar 3) aNil)) (aNil))))) (sSeq (sIf (ofE (eBin gEq (eCall 2 m__law_pick (aCons (eVar 0) (aCons (eC (.int 3)) (aNil)))) (eC (.int 0)))) ((_law_frame_f3 m__law_pick m__law_mixed)) (sNil)) (sSeq ((_law_frame_f1 m__law_pick m__law_mixed)) (sRet (eTup (aCons (eVar 3) (aCons (eB (g1 gTuple) (aCons (eSl (eVar 4) oNone (oSome (eC (.int 15)))) (aNil))) (aNil))))))))
theorem cal__law_frame {P : Program} {w : World} {K : PySem.W.Frag} {mg : Str → Option Value} {base : Heap} {f : Addr} {fd : FuncData} (D : Df K mg "_law_frame" st__law_frame ["source", "most", "many"] f fd) {m__law_pick : FS} (c__law_pick : Cal P w K mg base 1 "_law_pick" 2 m__law_pick) {m__law_mixed : FS} (c__law_mixed : Cal P w K mg base 2 "_law_mixed" 2 m__law_mixed) (z_tuple : mg "tuple" = none) (z_range : mg "range" = none) (z_list : mg "list" = none) : Cal P w K mg base 3 "_law_frame" 3 (fnD 9 (sem__law_frame m__law_pick m__law_mixed)) :=
  cal_of (k := 2) D sc__law_frame fun cdv A outer s H E hG hr => dSeq (dPar2 rfl sc__law_frame.nd rfl rfl (by decide) rfl rfl (dA (dFz (dAdd (dInt) (dCal (c__law_pick.mono (by decide)) hG hr (by rfl) (dA (dVar (pv 0)) (dA (dVar (pv 1)) (dA0)))))) (dA (dLst (dA0)) (dA0))) (by rfl)) (dSeq (dSet (i := 5) sc__law_frame.nd rfl (by first | exact .inl rfl | exact .inr rfl | exact .inr (.inl rfl) | exact .inr (.inr rfl)) (dCal (c__law_mixed.mono (by decide)) hG hr (by rfl) (dA (dVar (pv 0)) (dA (dRgL1 rfl (by rfl) z_list (by rfl) z_range (dVar (pv 3))) (dA0))))) (dSeq (dIfS (dCmT (oEq hr) (dCal (c__law_pick.mono (by decide)) hG hr (by rfl) (dA (dVar (pv 0)) (dA (dInt) (dA0)))) (dInt)) (dOne (dFor PassesOwn.never rfl (PI.af (dItR1 (by rfl) z_range (dVar (pv 3)))) (dGn (i := 6) sc__law_frame.nd rfl (by first | exact .inl rfl | exact .inr rfl | exact .inr (.inl rfl) | exact .inr (.inr rfl))) (dOne (dFor PassesOwn.never rfl (dItF (dLc (own := [("y", 7)]) (vs := [7]) rfl sc__law_frame.nd (PI.ac (dItR1 (by rfl) z_range (dVar (pv 6)))) (blkOk_by (N := ["source", "most", "many", "n", "roads", "names", "x", "y", "lap"]) (sc := defScope st__law_frame) (by decide +kernel)) rfl (by decide) (gow_nm) (fun _ _ _ _ _ => dGn (i := 7) sc__law_frame.nd rfl (by first | exact .inl rfl | exact .inr rfl | exact .inr (.inl rfl) | exact .inr (.inr rfl))) (fun _ _ _ _ _ => dTs1 (dCmT oGt (dCal (c__law_pick.mono (by decide)) hG hr (by rfl) (dA (dVar (pv 0)) (dA (dInt) (dA0)))) (dInt))) (fun _ _ _ _ _ => dVar (pv 7)))) (dGn (i := 7) sc__law_frame.nd rfl (by first | exact .inl rfl | exact .inr rfl | exact .inr (.inl rfl) | exact .inr (.inr rfl))) (dOne (dExpr (dAppend (pv 4) (dA (dTup (dA (dIx hr (dVar (pv 5)) (dVar (pv 6))) (dA (dIx hr (dVar (pv 5)) (dVar (pv 7))) (dA0)))) (dA0))))))))) (dSNil)) (dSeq (dFor PassesOwn.never rfl (PI.af (dItR1 (by rfl) z_range (dCal (c__law_pick.mono (by decide)) hG hr (by rfl) (dA (dVar (pv 0)) (dA (dAdd (dVar (pv 2)) (dInt)) (dA0)))))) (dGn (i := 8) sc__law_frame.nd rfl (by first | exact .inl rfl | exact .inr rfl | exact .inr (.inl rfl) | exact .inr (.inr rfl))) (dOne (dExpr (dAppend (pv 4) (dA (dTup (dA (dIx hr (dVar (pv 5)) (dCal (c__law_pick.mono (by decide)) hG hr (by rfl) (dA (dVar (pv 0)) (dA (dVar (pv 3)) (dA0))))) (dA (dIx hr (dVar (pv 5)) (dCal (c__law_pick.mono (by decide)) hG hr (by rfl) (dA (dVar (pv 0)) (dA (dVar (pv 3)) (dA0))))) (dA0)))) (dA0)))))) (dOne (dRet (dTup (dA (dVar (pv 3)) (dA (dBn bTuple (by rfl) z_tuple (dA (dSl (dVar (pv 4)) dO0 (dO (dInt))) (dA0))) (dA0)))))))))
def _law_all_near_c1 : SE := eLc (itE (eVar 1)) [3] (gNm 3) (sAnd (ofE (eBin gNe (eVar 3) (eVar 2))) (ofE (eBin (gInS true) (eVar 3) (eBin gIx (eVar 0) (eVar 2))))) (eVar 3)
def _law_all_near_f1 : SS := sFor (itF (eVar 1)) (gNm 2) (sIf (ofE (eBin gNe ((_law_all_near_c1)) (eLst (aNil)))) (sRet (eC (.bool false))) (sNil))
abbrev st__law_all_near : Stmt := topS 16
theorem sc__law_all_near : FnScope ["near", "lot", "x", "y"] ["near", "lot"] (defScope st__law_all_near) := ⟨rfl, rfl, rfl, by decide +kernel, rfl, by decide +kernel, by decide +kernel⟩
def sem__law_all_near : SS := sSeq ((_law_all_near_f1)) (sRet (eC (.bool true)))
theorem cal__law_all_near {P : Program} {w : World} {K : PySem.W.Frag} {mg : Str → Option Value} {base : Heap} {f : Addr} {fd : FuncData} (D : Df K mg "_law_all_near" st__law_all_near ["near", "lot"] f fd) : Cal P w K mg base 1 "_law_all_near" 2 (fnD 4 (sem__law_all_near)) :=
  cal_of (k := 0) D sc__law_all_near fun cdv A outer s H E hG hr => dSeq (dFor PassesOwn.never rfl (dItF (dVar (pv 1))) (dGn (i := 2) sc__law_all_near.nd rfl (by first | exact .inl rfl | exact .inr rfl | exact .inr (.inl rfl) | exact .inr (.inr rfl))) (dOne (dIfS (dCmT (oNe hr) (dLc (own := [("y", 3)]) (vs := [3]) rfl sc__law_all_near.nd (dItC (dVar (pv 1))) (blkOk_by (N := ["near", "lot", "x", "y"]) (sc := defScope st__law_all_near) (by decide +kernel)) rfl (by decide) (gow_nm) (fun _ _ _ _ _ => dGn (i := 3) sc__law_all_near.nd rfl (by first | exact .inl rfl | exact .inr rfl | exact .inr (.inl rfl) | exact .inr (.inr rfl))) (fun _ _ _ _ _ => dTs1 (PW.pt (dAnd (dCmT (oNe hr) (dVar (pv 3)) (dVar (pv 2))) (dAnd1 (dCmT (oNi hr) (dVar (pv 3)) (dIx hr (dVar (pv 0)) (dVar (pv 2)))))))) (fun _ _ _ _ _ => dVar (pv 3))) (dLst (dA0))) (dOne (dRet (dBool))) (dSNil)))) (dOne (dRet (dBool)))
def _law_perfect_c1 (m__law_all_near : FS) : SE := eLc (itE (eVar 1)) [3] (gNm 3) (ofE (eBin (gInS false) (eVar 3) (eBin gIx (eVar 0) (eVar 2)))) (eVar 3)
abbrev st__law_perfect : Stmt := topS 17
theorem sc__law_perfect : FnScope ["near", "lot", "x", "y"] ["near", "lot", "x"] (defScope st__law_perfect) := ⟨rfl, rfl, rfl, by decide +kernel, rfl, by decide +kernel, by decide +kernel⟩
def sem__law_perfect (m__law_all_near : FS) : SS := sRet (eCall 2 m__law_all_near (aCons (eVar 0) (aCons ((_law_perfect_c1 m__law_all_near)) (aNil))))
theorem cal__law_perfect {P : Program} {w : World} {K : PySem.W.Frag} {mg : Str → Option Value} {base : Heap} {f : Addr} {fd : FuncData} (D : Df K mg "_law_perfect" st__law_perfect ["near", "lot", "x"] f fd) {m__law_all_near : FS} (c__law_all_near : Cal P w K mg base 1 "_law_all_near" 2 m__law_all_near) : Cal P w K mg base 2 "_law_perfect" 3 (fnD 4 (sem__law_perfect m__law_all_near)) :=
  cal_of (k := 1) D sc__law_perfect fun cdv A outer s H E hG hr => dOne (dRet (dCal (c__law_all_near.mono (by decide)) hG hr (by rfl) (dA (dVar (pv 0)) (dA (dLc (own := [("y", 3)]) (vs := [3]) rfl sc__law_perfect.nd (dItC (dVar (pv 1))) (blkOk_by (N := ["near", "lot", "x", "y"]) (sc := defScope st__law_perfect) (by decide +kernel)) rfl (by decide) (gow_nm) (fun _ _ _ _ _ => dGn (i := 3) sc__law_perfect.nd rfl (by first | exact .inl rfl | exact .inr rfl | exact .inr (.inl rfl) | exact .inr (.inr rfl))) (fun _ _ _ _ _ => dTs1 (dCmT (oIn hr) (dVar (pv 3)) (dIx hr (dVar (pv 0)) (dVar (pv 2))))) (fun _ _ _ _ _ => dVar (pv 3))) (dA0)))))
def _law_taken_c1 (m__law_perfect : FS) : SE := eLc (itE (eVar 3)) [5] (gNm 5) (ofE (eCall 3 m__law_perfect (aCons (eVar 0) (aCons (eVar 3) (aCons (eVar 5) (aNil)))))) (eVar 5)
def _law_taken_c2 (m__law_perfect : FS) : SE := eLc (itE (eVar 3)) [5] (gNm 5) (ofE (eBin gNe (eVar 5) (eBin gIx (eVar 4) (eC (.int 0))))) (eVar 5)
def _law_taken_w1 (m__law_perfect : FS) : SS := sWh (ofE (eBin gNe (eVar 4) (eLst (aNil)))) (sSeq (sExpr (eOwn 2 oAppend (aCons (eBin gIx (eVar 4) (eC (.int 0))) (aNil)))) (sSeq (sSet 3 (eFz ((_law_taken_c2 m__law_perfect)))) (sSet 4 (eFz ((_law_taken_c1 m__law_perfect))))))
def _law_taken_c3 (m__law_perfect : FS) : SE := eLc (itE (eVar 3)) [5] (gNm 5) (ofE (eCall 3 m__law_perfect (aCons (eVar 0) (aCons (eVar 3) (aCons (eVar 5) (aNil)))))) (eVar 5)
abbrev st__law_taken : Stmt := topS 18
theorem sc__law_taken : FnScope ["near", "n", "found", "left", "some", "x"] ["near", "n"] (defScope st__law_taken) := ⟨rfl, rfl, rfl, by decide +kernel, rfl, by decide +kernel, by decide +kernel⟩
def sem__law_taken (m__law_perfect : FS) : SS := sSeq (sPar [2, 3] (aCons (eLst (aNil)) (aCons (eFz (eRgL (aCons (eVar 1) aNil))) (aNil)))) (sSeq (sSet 4 (eFz ((_law_taken_c3 m__law_perfect)))) (sSeq ((_law_taken_w1 m__law_perfect)) (sRet (eB (g1 gTuple) (aCons (eVar 2) (aNil))))))
theorem cal__law_taken {P : Program} {w : World} {K : PySem.W.Frag} {mg : Str → Option Value} {base : Heap} {f : Addr} {fd : FuncData} (D : Df K mg "_law_taken" st__law_taken ["near", "n"] f fd) {m__law_perfect : FS} (c__law_perfect : Cal P w K mg base 2 "_law_perfect" 3 m__law_perfect) (z_tuple : mg "tuple" = none) (z_list : mg "list" = none) (z_range : mg "range" = none) : Cal P w K mg base 3 "_law_taken" 2 (fnD 6 (sem__law_taken m__law_perfect)) :=
  cal_of (k := 2) D sc__law_taken fun cdv A outer s H E hG hr => dSeq (dParC (is := [2, 3]) rfl (pgs_cons (pg_name (i := 2) sc__law_taken.nd rfl (by first | exact .inl rfl | exact .inr rfl | exact .inr (.inl rfl) | exact .inr (.inr rfl))) (pgs_cons (pg_name (i := 3) sc__law_taken.nd rfl (by first | exact .inl rfl | exact .inr rfl | exact .inr (.inl rfl) | exact .inr (.inr rfl))) (pgs_nil))) (dA (dLst (dA0)) (dA (dFz (dRgL1 rfl (by rfl) z_list (by rfl) z_range (dVar (pv 1)))) (dA0)))) (dSeq (dSet (i := 4) sc__law_taken.nd rfl (by first | exact .inl rfl | exact .inr rfl | exact .inr (.inl rfl) | exact .inr (.inr rfl)) (dFz (dLc (own := [("x", 5)]) (vs := [5]) rfl sc__law_taken.nd (dItC (dVar (pv 3))) (blkOk_by (N := ["near", "n", "found", "left", "some", "x"]) (sc := defScope st__law_taken) (by decide +kernel)) rfl (by decide) (gow_nm) (fun _ _ _ _ _ => dGn (i := 5) sc__law_taken.nd rfl (by first | exact .inl rfl | exact .inr rfl | exact .inr (.inl rfl) | exact .inr (.inr rfl))) (fun _ _ _ _ _ => dTs1 (dTst (dCal (c__law_perfect.mono (by decide)) hG hr (by rfl) (dA (dVar (pv 0)) (dA (dVar (pv 3)) (dA (dVar (pv 5)) (dA0))))))) (fun _ _ _ _ _ => dVar (pv 5))))) (dSeq (dWhile PassesOwn.never (dCmT (oNe hr) (dVar (pv 4)) (dLst (dA0))) (dSeq (dExpr (dAppend (pv 2) (dA (dIx hr (dVar (pv 4)) (dInt)) (dA0)))) (dSeq (dSet (i := 3) sc__law_taken.nd rfl (by first | exact .inl rfl | exact .inr rfl | exact .inr (.inl rfl) | exact .inr (.inr rfl)) (dFz (dLc (own := [("x", 5)]) (vs := [5]) rfl sc__law_taken.nd (dItC (dVar (pv 3))) (blkOk_by (N := ["near", "n", "found", "left", "some", "x"]) (sc := defScope st__law_taken) (by decide +kernel)) rfl (by decide) (gow_nm) (fun _ _ _ _ _ => dGn (i := 5) sc__law_taken.nd rfl (by first | exact .inl rfl | exact .inr rfl | exact .inr (.inl rfl) | exact .inr (.inr rfl))) (fun _ _ _ _ _ => dTs1 (dCmT (oNe hr) (dVar (pv 5)) (dIx hr (dVar (pv 4)) (dInt)))) (fun _ _ _ _ _ => dVar (pv 5))))) (dOne (dSet (i := 4) sc__law_taken.nd rfl (by first | exact .inl rfl | exact .inr rfl | exact .inr (.inl rfl) | exact .inr (.inr rfl)) (dFz (dLc (own := [("x", 5)]) (vs := [5]) rfl sc__law_taken.nd (dItC (dVar (pv 3))) (blkOk_by (N := ["near", "n", "found", "left", "some", "x"]) (sc := defScope st__law_taken) (by decide +kernel)) rfl (by decide) (gow_nm) (fun _ _ _ _ _ => dGn (i := 5) sc__law_taken.nd rfl (by first | exact .inl rfl | exact .inr rfl | exact .inr (.inl rfl) | exact .inr (.inr rfl))) (fun _ _ _ _ _ => dTs1 (dTst (dCal (c__law_perfect.mono (by decide)) hG hr (by rfl) (dA (dVar (pv 0)) (dA (dVar (pv 3)) (dA (dVar (pv 5)) (dA0))))))) (fun _ _ _ _ _ => dVar (pv 5))))))))) (dOne (dRet (dBn bTuple (by rfl) z_tuple (dA (dVar (pv 2)) (dA0)))))))
def law_c1 (m_core_of : FS) (m__law_perfect : FS) (m__law_of : FS) (m_taking_sequence : FS) (m__law_taken : FS) (m__law_lots : FS) (m__law_mixed : FS) (m_is_perfect_in : FS) (m__law_pick : FS) (m_are_all_neighbours : FS) (m__law_all_near : FS) (m_neighbours_in : FS) (m__law_near : FS) (m__law_frame : FS) : SE := eLc (itE (eVar 13)) [15] (gNm 15) (ofE (eCall 3 m__law_perfect (aCons (eVar 6) (aCons (eVar 13) (aCons (eVar 15) (aNil)))))) (eVar 15)
def law_c2 (m_core_of : FS) (m__law_perfect : FS) (m__law_of : FS) (m_taking_sequence : FS) (m__law_taken : FS) (m__law_lots : FS) (m__law_mixed : FS) (m_is_perfect_in : FS) (m__law_pick : FS) (m_are_all_neighbours : FS) (m__law_all_near : FS) (m_neighbours_in : FS) (m__law_near : FS) (m__law_frame : FS) : SE := eLc (itE (eVar 13)) [15] (gNm 15) (ofE (eBin gNe (eVar 15) (eVar 8))) (eVar 15)
def law_w1 (m_core_of : FS) (m__law_perfect : FS) (m__law_of : FS) (m_taking_sequence : FS) (m__law_taken : FS) (m__law_lots : FS) (m__law_mixed : FS) (m_is_perfect_in : FS) (m__law_pick : FS) (m_are_all_neighbours : FS) (m__law_all_near : FS) (m_neighbours_in : FS) (m__law_near : FS) (m__law_frame : FS) : SS := sWh (ofE (eBin gNe (eVar 14) (eLst (aNil)))) (sSeq (sSet 8 (eCall 2 m__law_of (aCons (eVar 1) (aCons (eVar 14) (aNil))))) (sSeq (sSet 13 (eFz ((law_c2 m_core_of m__law_perfect m__law_of m_taking_sequence m__law_taken m__law_lots m__law_mixed m_is_perfect_in m__law_pick m_are_all_neighbours m__law_all_near m_neighbours_in m__law_near m__law_frame)))) (sSet 14 (eFz ((law_c1 m_core_of m__law_perfect m__law_of m_taking_sequence m__law_taken m__law_lots m__law_mixed m_is_perfect_in m__law_pick m_are_all_neighbours m__law_all_near m_neighbours_in m__law_near m__law_frame))))))
def law_c3 (m_core_of : FS) (m__law_perfect : FS) (m__law_of : FS) (m_taking_sequence : FS) (m__law_taken : FS) (m__law_lots : FS) (m__law_mixed : FS) (m_is_perfect_in : FS) (m__law_pick : FS) (m_are_all_neighbours : FS) (m__law_all_near : FS) (m_neighbours_in : FS) (m__law_near : FS) (m__law_frame : FS) : SE := eLc (itE (eVar 13)) [8] (gNm 8) (ofE (eCall 3 m__law_perfect (aCons (eVar 6) (aCons (eVar 13) (aCons (eVar 8) (aNil)))))) (eVar 8)
def law_c4 (m_core_of : FS) (m__law_perfect : FS) (m__law_of : FS) (m_taking_sequence : FS) (m__law_taken : FS) (m__law_lots : FS) (m__law_mixed : FS) (m_is_perfect_in : FS) (m__law_pick : FS) (m_are_all_neighbours : FS) (m__law_all_near : FS) (m_neighbours_in : FS) (m__law_near : FS) (m__law_frame : FS) : SE := eLc (itR (aCons (eVar 4) (aNil))) [8] (gNm 8) (ofE (eBin (gInS true) (eVar 8) (eVar 10))) (eVar 8)
def law_c5 (m_core_of : FS) (m__law_perfect : FS) (m__law_of : FS) (m_taking_sequence : FS) (m__law_taken : FS) (m__law_lots : FS) (m__law_mixed : FS) (m_is_perfect_in : FS) (m__law_pick : FS) (m_are_all_neighbours : FS) (m__law_all_near : FS) (m_neighbours_in : FS) (m__law_near : FS) (m__law_frame : FS) : SE := eLc (itE (eVar 7)) [15] (gNm 15) (sOr (ofE (eBin gEq (eVar 15) (eVar 8))) (ofE (eBin gEq (eCall 2 m__law_pick (aCons (eVar 1) (aCons (eC (.int 2)) (aNil)))) (eC (.int 0))))) (eVar 15)
def law_c6 (m_core_of : FS) (m__law_perfect : FS) (m__law_of : FS) (m_taking_sequence : FS) (m__law_taken : FS) (m__law_lots : FS) (m__law_mixed : FS) (m_is_perfect_in : FS) (m__law_pick : FS) (m_are_all_neighbours : FS) (m__law_all_near : FS) (m_neighbours_in : FS) (m__law_near : FS) (m__law_frame : FS) : SE := eLc (itE (eVar 7)) [15] (gNm 15) (ofE (eBin (gInS false) (eVar 15) (eBin gIx (eVar 6) (eVar 8)))) (eVar 15)
def law_f1 (m_core_of : FS) (m__law_perfect : FS) (m__law_of : FS) (m_taking_sequence : FS) (m__law_taken : FS) (m__law_lots : FS) (m__law_mixed : FS) (m_is_perfect_in : FS) (m__law_pick : FS) (m_are_all_neighbours : FS) (m__law_all_near : FS) (m_neighbours_in : FS) (m__law_near : FS) (m__law_frame : FS) : SS := sFor (itF (eSl (eCall 2 m__law_mixed (aCons (eVar 1) (aCons (eCall 1 m__law_lots (aCons (eVar 4) (aNil))) (aNil)))) oNone (oSome (eC (.int 8))))) (gNm 7) (sSeq (sSet 8 (eCall 2 m__law_pick (aCons (eVar 1) (aCons (eVar 4) (aNil))))) (sSeq (sSet 9 (eB (g1 gTuple) (aCons ((law_c6 m_core_of m__law_perfect m__law_of m_taking_sequence m__law_taken m__law_lots m__law_mixed m_is_perfect_in m__law_pick m_are_all_neighbours m__law_all_near m_neighbours_in m__law_near m__law_frame)) (aNil)))) (sSeq (sIf (ofE (eBin gNe (eB gRepr (aCons (eCall 3 m_neighbours_in (aCons (eVar 3) (aCons (eVar 7) (aCons (eVar 8) (aNil))))) (aNil))) (eB gRepr (aCons (eVar 9) (aNil))))) (sRet (eC (.bool false))) (sNil)) (sSeq (sIf (ofE (eBin gNe (eB gRepr (aCons (eCall 2 m_are_all_neighbours (aCons (eVar 3) (aCons (eVar 7) (aNil)))) (aNil))) (eB gRepr (aCons (eCall 2 m__law_all_near (aCons (eVar 6) (aCons (eVar 7) (aNil)))) (aNil))))) (sRet (eC (.bool false))) (sNil)) (sIf (ofE (eBin gNe (eVar 7) (eTup (aNil)))) (sSeq (sSet 8 (eCall 2 m__law_of (aCons (eVar 1) (aCons (eVar 7) (aNil))))) (sSeq (sSet 10 (eCall 3 m_is_perfect_in (aCons (eVar 3) (aCons (eVar 7) (aCons (eVar 8) (aNil)))))) (sSeq (sIf (ofE (eBin gNe (eB gRepr (aCons (eVar 10) (aNil))) (eB gRepr (aCons (eCall 3 m__law_perfect (aCons (eVar 6) (aCons (eVar 7) (aCons (eVar 8) (aNil))))) (aNil))))) (sRet (eC (.bool false))) (sNil)) (sSeq (sSet 11 (eB (g1 gTuple) (aCons ((law_c5 m_core_of m__law_perfect m__law_of m_taking_sequence m__law_taken m__law_lots m__law_mixed m_is_perfect_in m__law_pick m_are_all_neighbours m__law_all_near m_neighbours_in m__law_near m__law_frame)) (aNil)))) (sIf (sAnd (ofE (eVar 10)) (sNot (ofE (eCall 3 m_is_perfect_in (aCons (eVar 3) (aCons (eVar 11) (aCons (eVar 8) (aNil)))))))) (sRet (eC (.bool false))) (sNil)))))) (sNil))))))
def law_f2 (m_core_of : FS) (m__law_perfect : FS) (m__law_of : FS) (m_taking_sequence : FS) (m__law_taken : FS) (m__law_lots : FS) (m__law_mixed : FS) (m_is_perfect_in : FS) (m__law_pick : FS) (m_are_all_neighbours : FS) (m__law_all_near : FS) (m_neighbours_in : FS) (m__law_near : FS) (m__law_frame : FS) : SS := sFor (itR (aCons (eC (.int 5)) (aNil))) (gNm 2) (sSeq (sSet 3 (eCall 3 m__law_frame (aCons (eVar 1) (aCons (eC (.int 6)) (aCons (eC (.int 9)) (aNil)))))) (sSeq (sPar [4, 5, 6] (aCons (eBin gIx (eVar 3) (eC (.int 0))) (aCons (eB gRepr (aCons (eVar 3) (aNil))) (aCons (eCall 1 m__law_near (aCons (eVar 3) (aNil))) (aNil))))) (sSeq ((law_f1 m_core_of m__law_perfect m__law_of m_taking_sequence m__law_taken m__law_lots m__law_mixed m_is_perfect_in m__law_pick m_are_all_neighbours m__law_all_near m_neighbours_in m__law_near m__law_frame)) (sSeq (sSet 10 (eCall 2 m__law_taken (aCons (eVar 6) (aCons (eVar 4) (aNil))))) (sSeq (sSet 12 (eB (g1 gTuple) (aCons ((law_c4 m_core_of m__law_perfect m__law_of m_taking_sequence m__law_taken m__law_lots m__law_mixed m_is_perfect_in m__law_pick m_are_all_neighbours m__law_all_near m_neighbours_in m__law_near m__law_frame)) (aNil)))) (sSeq (sIf (ofE (eBin gNe (eB gRepr (aCons (eLst (aCons (eCall 1 m_taking_sequence (aCons (eVar 3) (aNil))) (aCons (eCall 1 m_core_of (aCons (eVar 3) (aNil))) (aNil)))) (aNil))) (eB gRepr (aCons (eLst (aCons (eVar 10) (aCons (eVar 12) (aNil)))) (aNil))))) (sRet (eC (.bool false))) (sNil)) (sSeq (sSet 13 (eFz (eRgL (aCons (eVar 4) aNil)))) (sSeq (sSet 14 (eFz ((law_c3 m_core_of m__law_perfect m__law_of m_taking_sequence m__law_taken m__law_lots m__law_mixed m_is_perfect_in m__law_pick m_are_all_neighbours m__law_all_near m_neighbours_in m__law_near m__law_frame)))) (sSeq ((law_w1 m_core_of m__law_perfect m__law_of m_taking_sequence m__law_taken m__law_lots m__law_mixed m_is_perfect_in m__law_pick m_are_all_neighbours m__law_all_near m_neighbours_in m__law_near m__law_frame)) (sIf (sOr (ofE (eBin gNe (eB (g1 gTuple) (aCons (eVar 13) (aNil))) (eVar 12))) (ofE (eBin gNe (eB gRepr (aCons (eVar 3) (aNil))) (eVar 5)))) (sRet (eC (.bool false))) (sNil)))))))))))
abbrev st_law : Stmt := topS 19
theorem sc_law : FnScope ["script", "source", "lap", "frame", "n", "kept", "near", "lot", "x", "due", "told", "less", "core", "left", "some", "y"] ["script"] (defScope st_law) := ⟨rfl, rfl, rfl, by decide +kernel, rfl, by decide +kernel, by decide +kernel⟩
def sem_law (m_core_of : FS) (m__law_perfect : FS) (m__law_of : FS) (m_taking_sequence : FS) (m__law_taken : FS) (m__law_lots : FS) (m__law_mixed : FS) (m_is_perfect_in : FS) (m__law_pick : FS) (m_are_all_neighbours : FS) (m__law_all_near : FS) (m_neighbours_in : FS) (m__law_near : FS) (m__law_frame : FS) : SS := sSeq ((law_f2 m_core_of m__law_perfect m__law_of m_taking_sequence m__law_taken m__law_lots m__law_mixed m_is_perfect_in m__law_pick m_are_all_neighbours m__law_all_near m_neighbours_in m__law_near m__law_frame)) (sRet (eBin gEq (eCall 1 m_core_of (aCons (eTup (aCons (eC (.int 4)) (aCons (eTup (aCons (eTup (aCons (eC (.int 0)) (aCons (eC (.int 1)) (aNil)))) (aCons (eTup (aCons (eC (.int 1)) (aCons (eC (.int 2)) (aNil)))) (aCons (eTup (aCons (eC (.int 2)) (aCons (eC (.int 3)) (aNil)))) (aCons (eTup (aCons (eC (.int 0)) (aCons (eC (.int 3)) (aNil)))) (aNil)))))) (aNil)))) (aNil))) (eTup (aCons (eC (.int 0)) (aCons (eC (.int 1)) (aCons (eC (.int 2)) (aCons (eC (.int 3)) (aNil))))))))
def lawH : Nat := 5
theorem der_law {P : Program} {w : World} {K : PySem.W.Frag} {mg : Str → Option Value} {base : Heap} {f : Addr} {m_core_of : FS} (c_core_of : Cal P w K mg base 5 "core_of" 1 m_core_of) {m__law_perfect : FS} (c__law_perfect : Cal P w K mg base 2 "_law_perfect" 3 m__law_perfect) {m__law_of : FS} (c__law_of : Cal P w K mg base 2 "_law_of" 2 m__law_of) {m_taking_sequence : FS} (c_taking_sequence : Cal P w K mg base 4 "taking_sequence" 1 m_taking_sequence) {m__law_taken : FS} (c__law_taken : Cal P w K mg base 3 "_law_taken" 2 m__law_taken) {m__law_lots : FS} (c__law_lots : Cal P w K mg base 1 "_law_lots" 1 m__law_lots) {m__law_mixed : FS} (c__law_mixed : Cal P w K mg base 2 "_law_mixed" 2 m__law_mixed) {m_is_perfect_in : FS} (c_is_perfect_in : Cal P w K mg base 3 "is_perfect_in" 3 m_is_perfect_in) {m__law_pick : FS} (c__law_pick : Cal P w K mg base 1 "_law_pick" 2 m__law_pick) {m_are_all_neighbours : FS} (c_are_all_neighbours : Cal P w K mg base 2 "are_all_neighbours" 2 m_are_all_neighbours) {m__law_all_near : FS} (c__law_all_near : Cal P w K mg base 1 "_law_all_near" 2 m__law_all_near) {m_neighbours_in : FS} (c_neighbours_in : Cal P w K mg base 1 "neighbours_in" 3 m_neighbours_in) {m__law_near : FS} (c__law_near : Cal P w K mg base 1 "_law_near" 1 m__law_near) {m__law_frame : FS} (c__law_frame : Cal P w K mg base 3 "_law_frame" 3 m__law_frame) (z_range : mg "range" = none) (z_tuple : mg "tuple" = none) (z_repr : mg "repr" = none) (z_list : mg "list" = none) (cdv : Value) (A : Around) (outer : List Env) (s : Shared) (H : Hp) (E : XK) (hG : (A.deeper (envOfC "law" (defScope st_law) s.heap.objs.size f cdv)).guards = some []) (hr : Room 5 (A.deeper (envOfC "law" (defScope st_law) s.heap.objs.size f cdv))) :
    PSs (cxOf CX0 P w K mg base ["script", "source", "lap", "frame", "n", "kept", "near", "lot", "x", "due", "told", "less", "core", "left", "some", "y"] "law" (defScope st_law) f cdv A outer s H E).nox (defBody st_law).tail (tS (sem_law m_core_of m__law_perfect m__law_of m_taking_sequence m__law_taken m__law_lots m__law_mixed m_is_perfect_in m__law_pick m_are_all_neighbours m__law_all_near m_neighbours_in m__law_near m__law_frame)) :=
  dSeq (dFor PassesOwn.never rfl (PI.af (dItR1 (by rfl) z_range (dInt))) (dGn (i := 2) sc_law.nd rfl (by first | exact .inl rfl | exact .inr rfl | exact .inr (.inl rfl) | exact .inr (.inr rfl))) (dSeq (dSet (i := 3) sc_law.nd rfl (by first | exact .inl rfl | exact .inr rfl | exact .inr (.inl rfl) | exact .inr (.inr rfl)) (dCal (c__law_frame.mono (by decide)) hG hr (by rfl) (dA (dVar (pv 1)) (dA (dInt) (dA (dInt) (dA0)))))) (dSeq (dParC (is := [4, 5, 6]) rfl (pgs_cons (pg_name (i := 4) sc_law.nd rfl (by first | exact .inl rfl | exact .inr rfl | exact .inr (.inl rfl) | exact .inr (.inr rfl))) (pgs_cons (pg_name (i := 5) sc_law.nd rfl (by first | exact .inl rfl | exact .inr rfl | exact .inr (.inl rfl) | exact .inr (.inr rfl))) (pgs_cons (pg_name (i := 6) sc_law.nd rfl (by first | exact .inl rfl | exact .inr rfl | exact .inr (.inl rfl) | exact .inr (.inr rfl))) (pgs_nil)))) (dA (dIx hr (dVar (pv 3)) (dInt)) (dA (dBn (bRepr hG hr) (by rfl) z_repr (dA (dVar (pv 3)) (dA0))) (dA (dCal (c__law_near.mono (by decide)) hG hr (by rfl) (dA (dVar (pv 3)) (dA0))) (dA0))))) (dSeq (dFor PassesOwn.never rfl (dItF (dSl (dCal (c__law_mixed.mono (by decide)) hG hr (by rfl) (dA (dVar (pv 1)) (dA (dCal (c__law_lots.mono (by decide)) hG hr (by rfl) (dA (dVar (pv 4)) (dA0))) (dA0)))) dO0 (dO (dInt)))) (dGn (i := 7) sc_law.nd rfl (by first | exact .inl rfl | exact .inr rfl | exact .inr (.inl rfl) | exact .inr (.inr rfl))) (dSeq (dSet (i := 8) sc_law.nd rfl (by first | exact .inl rfl | exact .inr rfl | exact .inr (.inl rfl) | exact .inr (.inr rfl)) (dCal (c__law_pick.mono (by decide)) hG hr (by rfl) (dA (dVar (pv 1)) (dA (dVar (pv 4)) (dA0))))) (dSeq (dSet (i := 9) sc_law.nd rfl (by first | exact .inl rfl | exact .inr rfl | exact .inr (.inl rfl) | exact .inr (.inr rfl)) (dBn bTuple (by rfl) z_tuple (dA (dLc (own := [("y", 15)]) (vs := [15]) rfl sc_law.nd (dItC (dVar (pv 7))) (blkOk_by (N := ["script", "source", "lap", "frame", "n", "kept", "near", "lot", "x", "due", "told", "less", "core", "left", "some", "y"]) (sc := defScope st_law) (by decide +kernel)) rfl (by decide) (gow_nm) (fun _ _ _ _ _ => dGn (i := 15) sc_law.nd rfl (by first | exact .inl rfl | exact .inr rfl | exact .inr (.inl rfl) | exact .inr (.inr rfl))) (fun _ _ _ _ _ => dTs1 (dCmT (oIn hr) (dVar (pv 15)) (dIx hr (dVar (pv 6)) (dVar (pv 8))))) (fun _ _ _ _ _ => dVar (pv 15))) (dA0)))) (dSeq (dIfS (dCmT (oNe hr) (dBn (bRepr hG hr) (by rfl) z_repr (dA (dCal (c_neighbours_in.mono (by decide)) hG hr (by rfl) (dA (dVar (pv 3)) (dA (dVar (pv 7)) (dA (dVar (pv 8)) (dA0))))) (dA0))) (dBn (bRepr hG hr) (by rfl) z_repr (dA (dVar (pv 9)) (dA0)))) (dOne (dRet (dBool))) (dSNil)) (dSeq (dIfS (dCmT (oNe hr) (dBn (bRepr hG hr) (by rfl) z_repr (dA (dCal (c_are_all_neighbours.mono (by decide)) hG hr (by rfl) (dA (dVar (pv 3)) (dA (dVar (pv 7)) (dA0)))) (dA0))) (dBn (bRepr hG hr) (by rfl) z_repr (dA (dCal (c__law_all_near.mono (by decide)) hG hr (by rfl) (dA (dVar (pv 6)) (dA (dVar (pv 7)) (dA0)))) (dA0)))) (dOne (dRet (dBool))) (dSNil)) (dOne (dIfS (dCmT (oNe hr) (dVar (pv 7)) (dTup (dA0))) (dSeq (dSet (i := 8) sc_law.nd rfl (by first | exact .inl rfl | exact .inr rfl | exact .inr (.inl rfl) | exact .inr (.inr rfl)) (dCal (c__law_of.mono (by decide)) hG hr (by rfl) (dA (dVar (pv 1)) (dA (dVar (pv 7)) (dA0))))) (dSeq (dSet (i := 10) sc_law.nd rfl (by first | exact .inl rfl | exact .inr rfl | exact .inr (.inl rfl) | exact .inr (.inr rfl)) (dCal (c_is_perfect_in.mono (by decide)) hG hr (by rfl) (dA (dVar (pv 3)) (dA (dVar (pv 7)) (dA (dVar (pv 8)) (dA0)))))) (dSeq (dIfS (dCmT (oNe hr) (dBn (bRepr hG hr) (by rfl) z_repr (dA (dVar (pv 10)) (dA0))) (dBn (bRepr hG hr) (by rfl) z_repr (dA (dCal (c__law_perfect.mono (by decide)) hG hr (by rfl) (dA (dVar (pv 6)) (dA (dVar (pv 7)) (dA (dVar (pv 8)) (dA0))))) (dA0)))) (dOne (dRet (dBool))) (dSNil)) (dSeq (dSet (i := 11) sc_law.nd rfl (by first | exact .inl rfl | exact .inr rfl | exact .inr (.inl rfl) | exact .inr (.inr rfl)) (dBn bTuple (by rfl) z_tuple (dA (dLc (own := [("y", 15)]) (vs := [15]) rfl sc_law.nd (dItC (dVar (pv 7))) (blkOk_by (N := ["script", "source", "lap", "frame", "n", "kept", "near", "lot", "x", "due", "told", "less", "core", "left", "some", "y"]) (sc := defScope st_law) (by decide +kernel)) rfl (by decide) (gow_nm) (fun _ _ _ _ _ => dGn (i := 15) sc_law.nd rfl (by first | exact .inl rfl | exact .inr rfl | exact .inr (.inl rfl) | exact .inr (.inr rfl))) (fun _ _ _ _ _ => dTs1 (PW.pt (dOr (dCmT (oEq hr) (dVar (pv 15)) (dVar (pv 8))) (dOr1 (dCmT (oEq hr) (dCal (c__law_pick.mono (by decide)) hG hr (by rfl) (dA (dVar (pv 1)) (dA (dInt) (dA0)))) (dInt)))))) (fun _ _ _ _ _ => dVar (pv 15))) (dA0)))) (dOne (dIfS (PW.pt (dAnd (dTst (dVar (pv 10))) (dAnd1 (dNot (dTst (dCal (c_is_perfect_in.mono (by decide)) hG hr (by rfl) (dA (dVar (pv 3)) (dA (dVar (pv 11)) (dA (dVar (pv 8)) (dA0)))))))))) (dOne (dRet (dBool))) (dSNil))))))) (dSNil)))))))) (dSeq (dSet (i := 10) sc_law.nd rfl (by first | exact .inl rfl | exact .inr rfl | exact .inr (.inl rfl) | exact .inr (.inr rfl)) (dCal (c__law_taken.mono (by decide)) hG hr (by rfl) (dA (dVar (pv 6)) (dA (dVar (pv 4)) (dA0))))) (dSeq (dSet (i := 12) sc_law.nd rfl (by first | exact .inl rfl | exact .inr rfl | exact .inr (.inl rfl) | exact .inr (.inr rfl)) (dBn bTuple (by rfl) z_tuple (dA (dLc (own := [("x", 8)]) (vs := [8]) rfl sc_law.nd (PI.ac (dItR1 (by rfl) z_range (dVar (pv 4)))) (blkOk_by (N := ["script", "source", "lap", "frame", "n", "kept", "near", "lot", "x", "due", "told", "less", "core", "left", "some", "y"]) (sc := defScope st_law) (by decide +kernel)) rfl (by decide) (gow_nm) (fun _ _ _ _ _ => dGn (i := 8) sc_law.nd rfl (by first | exact .inl rfl | exact .inr rfl | exact .inr (.inl rfl) | exact .inr (.inr rfl))) (fun _ _ _ _ _ => dTs1 (dCmT (oNi hr) (dVar (pv 8)) (dVar (pv 10)))) (fun _ _ _ _ _ => dVar (pv 8))) (dA0)))) (dSeq (dIfS (dCmT (oNe hr) (dBn (bRepr hG hr) (by rfl) z_repr (dA (dLst (dA (dCal (c_taking_sequence.mono (by decide)) hG hr (by rfl) (dA (dVar (pv 3)) (dA0))) (dA (dCal (c_core_of.mono (by decide)) hG hr (by rfl) (dA (dVar (pv 3)) (dA0))) (dA0)))) (dA0))) (dBn (bRepr hG hr) (by rfl) z_repr (dA (dLst (dA (dVar (pv 10)) (dA (dVar (pv 12)) (dA0)))) (dA0)))) (dOne (dRet (dBool))) (dSNil)) (dSeq (dSet (i := 13) sc_law.nd rfl (by first | exact .inl rfl | exact .inr rfl | exact .inr (.inl rfl) | exact .inr (.inr rfl)) (dFz (dRgL1 rfl (by rfl) z_list (by rfl) z_range (dVar (pv 4))))) (dSeq (dSetLcF (i := 14) (own := [("x", 8)]) (vs := [8]) rfl sc_law.nd rfl rfl (sw_true rfl rfl rfl rfl) (dItC (dVar (pv 13))) (blkOk_by (N := ["script", "source", "lap", "frame", "n", "kept", "near", "lot", "x", "due", "told", "less", "core", "left", "some", "y"]) (sc := defScope st_law) (by decide +kernel)) rfl (by decide) (gow_nm) (fun _ _ _ _ _ => dGn (i := 8) sc_law.nd rfl (by first | exact .inl rfl | exact .inr rfl | exact .inr (.inl rfl) | exact .inr (.inr rfl))) (fun _ _ _ _ _ => dTs1 (dTst (dCal (c__law_perfect.mono (by decide)) hG hr (by rfl) (dA (dVar (pv 6)) (dA (dVar (pv 13)) (dA (dVar (pv 8)) (dA0))))))) (fun _ _ _ _ _ => dVar (pv 8))) (dSeq (dWhile PassesOwn.never (dCmT (oNe hr) (dVar (pv 14)) (dLst (dA0))) (dSeq (dSet (i := 8) sc_law.nd rfl (by first | exact .inl rfl | exact .inr rfl | exact .inr (.inl rfl) | exact .inr (.inr rfl)) (dCal (c__law_of.mono (by decide)) hG hr (by rfl) (dA (dVar (pv 1)) (dA (dVar (pv 14)) (dA0))))) (dSeq (dSet (i := 13) sc_law.nd rfl (by first | exact .inl rfl | exact .inr rfl | exact .inr (.inl rfl) | exact .inr (.inr rfl)) (dFz (dLc (own := [("y", 15)]) (vs := [15]) rfl sc_law.nd (dItC (dVar (pv 13))) (blkOk_by (N := ["script", "source", "lap", "frame", "n", "kept", "near", "lot", "x", "due", "told", "less", "core", "left", "some", "y"]) (sc := defScope st_law) (by decide +kernel)) rfl (by decide) (gow_nm) (fun _ _ _ _ _ => dGn (i := 15) sc_law.nd rfl (by first | exact .inl rfl | exact .inr rfl | exact .inr (.inl rfl) | exact .inr (.inr rfl))) (fun _ _ _ _ _ => dTs1 (dCmT (oNe hr) (dVar (pv 15)) (dVar (pv 8)))) (fun _ _ _ _ _ => dVar (pv 15))))) (dOne (dSetLcF (i := 14) (own := [("y", 15)]) (vs := [15]) rfl sc_law.nd rfl rfl (sw_true rfl rfl rfl rfl) (dItC (dVar (pv 13))) (blkOk_by (N := ["script", "source", "lap", "frame", "n", "kept", "near", "lot", "x", "due", "told", "less", "core", "left", "some", "y"]) (sc := defScope st_law) (by decide +kernel)) rfl (by decide) (gow_nm) (fun _ _ _ _ _ => dGn (i := 15) sc_law.nd rfl (by first | exact .inl rfl | exact .inr rfl | exact .inr (.inl rfl) | exact .inr (.inr rfl))) (fun _ _ _ _ _ => dTs1 (dTst (dCal (c__law_perfect.mono (by decide)) hG hr (by rfl) (dA (dVar (pv 6)) (dA (dVar (pv 13)) (dA (dVar (pv 15)) (dA0))))))) (fun _ _ _ _ _ => dVar (pv 15))))))) (dOne (dIfS (PW.pt (dOr (dCmT (oNe hr) (dBn bTuple (by rfl) z_tuple (dA (dVar (pv 13)) (dA0))) (dVar (pv 12))) (dOr1 (dCmT (oNe hr) (dBn (bRepr hG hr) (by rfl) z_repr (dA (dVar (pv 3)) (dA0))) (dVar (pv 5)))))) (dOne (dRet (dBool))) (dSNil))))))))))))) (dOne (dRet (dCm (oEq hr) (dCal (c_core_of.mono (by decide)) hG hr (by rfl) (dA (dTup (dA (dInt) (dA (dTup (dA (dTup (dA (dInt) (dA (dInt) (dA0)))) (dA (dTup (dA (dInt) (dA (dInt) (dA0)))) (dA (dTup (dA (dInt) (dA (dInt) (dA0)))) (dA (dTup (dA (dInt) (dA (dInt) (dA0)))) (dA0)))))) (dA0)))) (dA0))) (dTup (dA (dInt) (dA (dInt) (dA (dInt) (dA (dInt) (dA0)))))))))
end Dn

set_option Elab.async false
set_option linter.all false
set_option maxRecDepth 100000
set_option maxHeartbeats 4000000
/-! P57: what the defs of k57 give. -/
namespace Dn
open PySem PySem.Spec PyProof.Rows L2

/-! ### the rest of a lot -/
def restF (n : Nat) (lot : List Int) : List Int := (rng n).filter fun x => !decide (x ∈ lot)
def e_rest (a : Nat × List Int) : List Sl := [.im (.int a.1), .im (tu a.2)]
noncomputable def mm_rest_of_lot : FS := FSof e_rest (fun a => a.1 ≤ 1000) (fun a => tu (restF a.1 a.2))
theorem rest_at {n : Nat} {lot : List Int} (h : n ≤ 1000) (S : Src) : mm_rest_of_lot [.im (.int n), .im (tu lot)] S = some (tu (restF n lot), S) :=
  FSof_at (enc := e_rest) (a := (n, lot)) (fun a b h => by
    unfold e_rest at h
    simp only [List.cons.injEq, Sl.im.injEq, PyData.int.injEq] at h
    rw [show a.1 = b.1 by omega, tu_inj h.2.1]) h S
theorem rest_c1 {n : Nat} {lot : List Int} {S : Src} (h : n ≤ 1000) : rest_of_lot_c1 [.im (.int n), .im (tu lot), .un] S = some (.ow (li (restF n lot)), [.im (.int n), .im (tu lot), .un], S) := by
  unfold rest_of_lot_c1
  refine lc_evT (l := rng n) (S1 := S) (ρ1 := [.im (.int n), .im (tu lot), .un]) (fun x => !decide (x ∈ lot)) ?_ (by rw [rng_len, sizeLine_eq]; omega) rfl (by simp) fun d hd => ?_
  · simp [rgOf1 (show n ≤ 16777216 by omega)]
  · simp [gNi_tu]
theorem rest_sem (a : Nat × List Int) (S : Src) (h : a.1 ≤ 1000) : fnD 3 sem_rest_of_lot (e_rest a) S = some (tu (restF a.1 a.2), S) := by
  simp [fnD, sem_rest_of_lot, e_rest, rest_c1 h]

/-! ### frames -/
/-- the neighbours of x by roads, as found -/
def fndS (x : Int) (l : List Int) (r : Int × Int) : List Int := if r.1 ≠ r.2 ∧ (x = r.1 ∨ x = r.2) then l ++ [if r.1 = x then r.2 else r.1] else l
def fndR (roads : List (Int × Int)) (x : Int) : List Int := roads.foldl (fndS x) []
def nbIn (F : Fr) (lot : List Int) (x : Int) : List Int := lot.filter fun y => decide (y ∈ fndR F.roads x)
def e_nb (a : Fr × List Int × Int) : List Sl := [.im (frE a.1), .im (tu a.2.1), .im (.int a.2.2)]
noncomputable def mm_neighbours_in : FS := FSof e_nb (fun a => a.1.ok ∧ a.2.1.length ≤ 1000) (fun a => tu (nbIn a.1 a.2.1 a.2.2))
theorem nb_at {F : Fr} {lot : List Int} {x : Int} (h : F.ok) (hl : lot.length ≤ 1000) (S : Src) : mm_neighbours_in [.im (frE F), .im (tu lot), .im (.int x)] S = some (tu (nbIn F lot x), S) :=
  FSof_at (enc := e_nb) (a := (F, lot, x)) (fun a b h => by
    unfold e_nb at h
    simp only [List.cons.injEq, Sl.im.injEq, PyData.int.injEq] at h
    rw [frE_inj h.1, tu_inj h.2.1, h.2.2.1]) ⟨h, hl⟩ S
def nbK (F : Fr) (lot : List Int) (x : Int) (t : List Int × Sl × Sl) : Rho := [.im (frE F), .im (tu lot), .im (.int x), .ow (li t.1), t.2.1, t.2.2, .un]
theorem nb_f1 {F : Fr} {lot : List Int} {x : Int} {S : Src} (h : F.ok) : ∃ s4 s5, neighbours_in_f1 (nbK F lot x ([], .un, .un)) S = some (.nx, nbK F lot x (fndR F.roads x, s4, s5), S) := by
  have key := forT (τ := List Int × Sl × Sl) (en (α := Int × Int)) (g := gTp (gsCons (gNm 4) (gsCons (gNm 5) (gsNil))))
    (b := (sIf (sAnd (ofE (eBin gNe (eVar 4) (eVar 5))) (ofE (eBin (gInS false) (eVar 2) (eTup (aCons (eVar 4) (aCons (eVar 5) (aNil))))))) (sExpr (eOwn 3 oAppend (aCons (eIf (ofE (eBin gEq (eVar 4) (eVar 2))) (eVar 5) (eVar 4)) (aNil)))) (sNil)))
    (nbK F lot x) (fun _ => S) (fun t r => (fndS x t.1 r, .im (.int r.1), .im (.int r.2))) (fun t l => t.1.length + l.length ≤ 64)
    (fun a l t p => by
      obtain ⟨a1, a2⟩ := a
      obtain ⟨t, s4, s5⟩ := t
      have p' : t.length + (l.length + 1) ≤ 64 := p
      refine ⟨[.im (frE F), .im (tu lot), .im (.int x), .ow (li t), .im (.int a1), .im (.int a2), .un], by simp [nbK, en_pair, en_int, itemsOf], .inl ?_, ?_⟩
      · by_cases c1 : a1 = a2
        · simp [c1, fndS, nbK]
        · by_cases c2 : x = a1 ∨ x = a2
          · have ev : eIf (ofE (eBin gEq (eVar 4) (eVar 2))) (eVar 5) (eVar 4) [.im (frE F), .im (tu lot), .im (.int x), .ow (li t), .im (.int a1), .im (.int a2), .un] S = some (.im (en (if a1 = x then a2 else a1)), [.im (frE F), .im (tu lot), .im (.int x), .ow (li t), .im (.int a1), .im (.int a2), .un], S) := by
              by_cases c3 : a1 = x
              · simp [c3, en_int]
              · simp [c3, en_int]
            have ap := app_ev (i := 3) (t := t) (a := if a1 = x then a2 else a1) rfl ev rfl rfl (by rw [sizeLine_eq]; omega)
            simp [c1, c2, sizeLine_eq, ap, fndS, nbK]
          · simp [c1, c2, sizeLine_eq, fndS, nbK]
      · show (fndS x t (a1, a2)).length + l.length ≤ 64
        unfold fndS
        split
        · rw [List.length_append]; simp; omega
        · omega) F.roads ([], .un, .un) (by simpa using h.2.1)
  have e : itF (eBin gIx (eVar 0) (eC (.int 1))) (nbK F lot x ([], .un, .un)) S = some (F.roads.map en, nbK F lot x ([], .un, .un), S) := by simp [nbK]
  have q := fold_fst (f := fndS x) (step := fun (t : List Int × Sl × Sl) (r : Int × Int) => (fndS x t.1 r, Sl.im (.int r.1), Sl.im (.int r.2))) (fun _ _ => rfl) F.roads ([], .un, .un)
  generalize List.foldl (fun (t : List Int × Sl × Sl) (r : Int × Int) => (fndS x t.1 r, Sl.im (.int r.1), Sl.im (.int r.2))) ([], .un, .un) F.roads = z at q key
  obtain ⟨z1, z2, z3⟩ := z
  simp only at q
  subst q
  refine ⟨z2, z3, ?_⟩
  unfold neighbours_in_f1
  rw [sFor_ap, e, bindS]
  exact key.1
theorem fnd_len {x : Int} : ∀ (l : List (Int × Int)) (m : List Int), (l.foldl (fndS x) m).length ≤ m.length + l.length
  | [], m => Nat.le_refl _
  | r :: l, m => by
    rw [List.foldl_cons]
    refine Nat.le_trans (fnd_len l _) ?_
    unfold fndS
    split
    · simp; omega
    · simp
theorem nb_sem (a : Fr × List Int × Int) (S : Src) (h : a.1.ok ∧ a.2.1.length ≤ 1000) : fnD 7 sem_neighbours_in (e_nb a) S = some (tu (nbIn a.1 a.2.1 a.2.2), S) := by
  obtain ⟨F, lot, x⟩ := a
  obtain ⟨h, hl⟩ := h
  simp only at h hl
  obtain ⟨s4, s5, e⟩ := nb_f1 (lot := lot) (x := x) (S := S) h
  have c : neighbours_in_c1 (nbK F lot x (fndR F.roads x, s4, s5)) S = some (.ow (li (nbIn F lot x)), nbK F lot x (fndR F.roads x, s4, s5), S) := by
    unfold neighbours_in_c1
    refine lc_evT (l := lot) (S1 := S) (ρ1 := nbK F lot x (fndR F.roads x, s4, s5)) _ (by simp [nbK]) (by rw [sizeLine_eq]; omega) rfl (by simp [nbK]) fun y hy => ?_
    simp [nbK, gIn_li]
  have e0 : sSet 3 (eLst aNil) [.im (frE F), .im (tu lot), .im (.int x), .un, .un, .un, .un] S = some (.nx, nbK F lot x ([], .un, .un), S) := by simp [sizeLine_eq, nbK]; rfl
  refine fnD_rt (ρ1 := nbK F lot x (fndR F.roads x, s4, s5)) ?_
  show sem_neighbours_in [.im (frE F), .im (tu lot), .im (.int x), .un, .un, .un, .un] S = _
  unfold sem_neighbours_in
  rw [seqN e0, seqN e]
  simp [c]

/-! ### all neighbours; perfect ones -/
def allNb (F : Fr) (lot : List Int) : Bool := decide ((lot.filter fun x => decide (((nbIn F lot x).length : Int) < (lot.length : Int) - 1)) = [])
def e_all (a : Fr × List Int) : List Sl := [.im (frE a.1), .im (tu a.2)]
noncomputable def mm_are_all_neighbours : FS := FSof e_all (fun a => a.1.ok ∧ a.2.length ≤ 1000) (fun a => .bool (allNb a.1 a.2))
theorem e_all_inj (a b : Fr × List Int) (h : e_all a = e_all b) : a = b := by
  unfold e_all at h
  simp only [List.cons.injEq, Sl.im.injEq] at h
  exact Prod.ext (frE_inj h.1) (tu_inj h.2.1)
theorem all_at {F : Fr} {lot : List Int} (h : F.ok) (hl : lot.length ≤ 1000) (S : Src) : mm_are_all_neighbours [.im (frE F), .im (tu lot)] S = some (.bool (allNb F lot), S) :=
  FSof_at (enc := e_all) (a := (F, lot)) (fun a b h => by rw [e_all_inj a b h]) ⟨h, hl⟩ S
theorem all_sem (a : Fr × List Int) (S : Src) (h : a.1.ok ∧ a.2.length ≤ 1000) : fnD 3 (sem_are_all_neighbours mm_neighbours_in) (e_all a) S = some (.bool (allNb a.1 a.2), S) := by
  obtain ⟨F, lot⟩ := a
  obtain ⟨h, hl⟩ := h
  simp only at h hl
  have c : are_all_neighbours_c1 mm_neighbours_in [.im (frE F), .im (tu lot), .un] S = some (.ow (li (lot.filter fun x => decide (((nbIn F lot x).length : Int) < (lot.length : Int) - 1))), [.im (frE F), .im (tu lot), .un], S) := by
    unfold are_all_neighbours_c1
    refine lc_evT (l := lot) (S1 := S) (ρ1 := [.im (frE F), .im (tu lot), .un]) _ (by simp) (by rw [sizeLine_eq]; omega) rfl (by simp) fun y hy => ?_
    have e := nb_at (F := F) (lot := lot) (x := y) h hl S
    simp [en_int, e]
  refine fnD_rt (ρ1 := [.im (frE F), .im (tu lot), .un]) ?_
  show sem_are_all_neighbours mm_neighbours_in [.im (frE F), .im (tu lot), .un] S = _
  unfold sem_are_all_neighbours
  simp [c, sizeLine_eq, gEq_liN, allNb]
def perf (F : Fr) (lot : List Int) (x : Int) : Bool := allNb F (nbIn F lot x)
theorem e_nb_inj (a b : Fr × List Int × Int) (h : e_nb a = e_nb b) : a = b := by
  unfold e_nb at h
  simp only [List.cons.injEq, Sl.im.injEq, PyData.int.injEq] at h
  exact Prod.ext (frE_inj h.1) (Prod.ext (tu_inj h.2.1) h.2.2.1)
noncomputable def mm_is_perfect_in : FS := FSof e_nb (fun a => a.1.ok ∧ a.2.1.length ≤ 1000) (fun a => .bool (perf a.1 a.2.1 a.2.2))
theorem perf_at {F : Fr} {lot : List Int} {x : Int} (h : F.ok) (hl : lot.length ≤ 1000) (S : Src) : mm_is_perfect_in [.im (frE F), .im (tu lot), .im (.int x)] S = some (.bool (perf F lot x), S) :=
  FSof_at (enc := e_nb) (a := (F, lot, x)) (fun a b h => by rw [e_nb_inj a b h]) ⟨h, hl⟩ S
theorem nbIn_len (F : Fr) (lot : List Int) (x : Int) : (nbIn F lot x).length ≤ lot.length := List.length_filter_le _ _
theorem perf_sem (a : Fr × List Int × Int) (S : Src) (h : a.1.ok ∧ a.2.1.length ≤ 1000) : fnD 3 (sem_is_perfect_in mm_neighbours_in mm_are_all_neighbours) (e_nb a) S = some (.bool (perf a.1 a.2.1 a.2.2), S) := by
  obtain ⟨F, lot, x⟩ := a
  obtain ⟨h, hl⟩ := h
  simp only at h hl
  have e := nb_at (F := F) (lot := lot) (x := x) h hl S
  have e2 := all_at (F := F) (lot := nbIn F lot x) h (Nat.le_trans (nbIn_len F lot x) hl) S
  refine fnD_rt (ρ1 := e_nb (F, lot, x)) ?_
  show sem_is_perfect_in mm_neighbours_in mm_are_all_neighbours [.im (frE F), .im (tu lot), .im (.int x)] S = _
  unfold sem_is_perfect_in
  simp [e, e2, e_nb, perf]

/-! ### what is taken -/
def someOf (F : Fr) (left : List Int) : List Int := left.filter (perf F left)
abbrev TS := List Int × List Int × List Int
def tkC (t : TS) : Bool := !decide (t.2.2 = [])
def tkStep (F : Fr) (t : TS) : TS := (t.1 ++ [t.2.2.headD 0], restF F.n (t.1 ++ [t.2.2.headD 0]), someOf F (restF F.n (t.1 ++ [t.2.2.headD 0])))
def tk0 (F : Fr) : TS := ([], rng F.n, someOf F (rng F.n))
def takenF (F : Fr) : List Int := (loopF tkC (tkStep F) F.n (tk0 F)).1
def tkK (F : Fr) (t : TS) : Rho := [.im (frE F), .im (tu t.1), .im (tu t.2.1), .im (li t.2.2), .un]
noncomputable def mm_taking_sequence : FS := FSof e_fr (fun F => F.ok) (fun F => tu (takenF F))
theorem taking_at {F : Fr} (h : F.ok) (S : Src) : mm_taking_sequence [.im (frE F)] S = some (tu (takenF F), S) :=
  FSof_at (enc := e_fr) (a := F) (fun a b h => by rw [e_fr_inj a b h]) h S
theorem restF_len (n : Nat) (l : List Int) : (restF n l).length ≤ n := by
  have := List.length_filter_le (fun x => !decide (x ∈ l)) (rng n)
  rw [rng_len] at this
  exact this
theorem restF_nil (n : Nat) : restF n [] = rng n := by
  unfold restF
  exact List.filter_eq_self.mpr fun a _ => by simp
theorem mem_restF {n : Nat} {l : List Int} {x : Int} : x ∈ restF n l ↔ x ∈ rng n ∧ x ∉ l := by
  unfold restF
  rw [List.mem_filter]
  simp
theorem restF_snoc {n : Nat} {l : List Int} {x : Int} : restF n (l ++ [x]) = (restF n l).filter fun y => !decide (y = x) := by
  unfold restF
  rw [List.filter_filter]
  congr 1
  funext y
  rw [Bool.eq_iff_iff]
  simp
  constructor
  · rintro ⟨h1, h2⟩; exact ⟨h2, h1⟩
  · rintro ⟨h1, h2⟩; exact ⟨h2, h1⟩
theorem filter_lt {l : List Int} {p : Int → Bool} {x : Int} (h : x ∈ l) (hp : p x = false) : (l.filter p).length < l.length := by
  induction l with
  | nil => cases h
  | cons a l ih =>
    rcases List.mem_cons.mp h with rfl | h
    · rw [List.filter_cons_of_neg (by rw [hp]; exact Bool.false_ne_true)]
      exact Nat.lt_succ_of_le (List.length_filter_le _ _)
    · by_cases c : p a = true
      · rw [List.filter_cons_of_pos c, List.length_cons, List.length_cons]
        exact Nat.succ_lt_succ (ih h)
      · rw [List.filter_cons_of_neg c, List.length_cons]
        exact Nat.lt_succ_of_lt (ih h)
def tkP (F : Fr) (m : Nat) (t : TS) : Prop := t.2.1 = restF F.n t.1 ∧ t.2.2 = someOf F t.2.1 ∧ t.2.1.length ≤ m ∧ t.1.length + m ≤ F.n
theorem some_c1 {F : Fr} {found left : List Int} {s3 : Sl} {S : Src} {mr : FS} (h : F.ok) (hl : left.length ≤ 1000) (hs : s3 = .un ∨ ∃ d, s3 = .im d) :
    taking_sequence_c1 mm_is_perfect_in mr [.im (frE F), .im (tu found), .im (tu left), s3, .un] S = some (.ow (li (someOf F left)), [.im (frE F), .im (tu found), .im (tu left), s3, .un], S) := by
  unfold taking_sequence_c1
  have hs' : roSl s3 = s3 := by rcases hs with rfl | ⟨d, rfl⟩ <;> rfl
  refine lc_evT (l := left) (S1 := S) (ρ1 := [.im (frE F), .im (tu found), .im (tu left), s3, .un]) _ (by simp) (by rw [sizeLine_eq]; omega) rfl (by simp) fun y hy => ?_
  have e := perf_at (F := F) (lot := left) (x := y) h hl S
  simp [en_int, e, hs']
theorem taking_sem (F : Fr) (S : Src) (h : F.ok) : fnD 5 (sem_taking_sequence mm_is_perfect_in mm_rest_of_lot) (e_fr F) S = some (tu (takenF F), S) := by
  have hn := h.1
  have key := whT (τ := TS) (t := ofE (eBin gNe (eVar 3) (eLst (aNil)))) (b := sSeq (sSet 1 (eTup (aStar (eVar 1) (aCons (eBin gIx (eVar 3) (eC (.int 0))) (aNil))))) (sSeq (sSet 2 (eCall 2 mm_rest_of_lot (aCons (eBin gIx (eVar 0) (eC (.int 0))) (aCons (eVar 1) (aNil))))) (sSet 3 (eFz ((taking_sequence_c1 mm_is_perfect_in mm_rest_of_lot))))))
    (tkK F) (fun _ => S) tkC (tkStep F) (tkP F) (fun m t p => by simp [tkK, tkC, sizeLine_eq, gNe_liN]) (fun m t p hc => by
      obtain ⟨found, left, some'⟩ := t
      obtain ⟨p1, p2, p3, p4⟩ := p
      simp only at p1 p2 p3 p4
      cases some' with
      | nil => simp [tkC] at hc
      | cons y r =>
        have hy : y ∈ left := by
          have : y ∈ someOf F left := by rw [← p2]; exact List.mem_cons_self ..
          exact (List.mem_filter.mp this).1
        have hlt : (restF F.n (found ++ [y])).length < left.length := by
          rw [restF_snoc, ← p1]
          exact filter_lt hy (by simp)
        have e1 : sSet 1 (eTup (aStar (eVar 1) (aCons (eBin gIx (eVar 3) (eC (.int 0))) (aNil)))) (tkK F (found, left, y :: r)) S = some (.nx, tkK F (found ++ [y], left, y :: r), S) := by
          have st := star1_ev (l := found) (a := y) (f := eVar 1) (g := eBin gIx (eVar 3) (eC (.int 0))) (ρ := tkK F (found, left, y :: r)) (S := S) rfl rfl (by simp [tkK]; exact ⟨rfl, rfl, rfl⟩) rfl (by rw [sizeLine_eq]; omega)
          rw [sSet_ap, st]
          rfl
        have e2 := rest_at (n := F.n) (lot := found ++ [y]) (by omega) S
        have e3 := some_c1 (F := F) (found := found ++ [y]) (left := restF F.n (found ++ [y])) (s3 := .im (li (y :: r))) (S := S) (mr := mm_rest_of_lot) h (by have := restF_len F.n (found ++ [y]); omega) (.inr ⟨_, rfl⟩)
        refine ⟨m - 1, by omega, ⟨rfl, rfl, ?_, ?_⟩, .inl ?_⟩
        · show (restF F.n (found ++ [y])).length ≤ m - 1
          omega
        · show (found ++ [y]).length + (m - 1) ≤ F.n
          simp; omega
        · rw [seqN e1]
          have e4 : sSet 2 (eCall 2 mm_rest_of_lot (aCons (eBin gIx (eVar 0) (eC (PyData.int 0))) (aCons (eVar 1) aNil))) (tkK F (found ++ [y], left, y :: r)) S = some (.nx, tkK F (found ++ [y], restF F.n (found ++ [y]), y :: r), S) := by
            simp [tkK, e2]
          rw [seqN e4]
          simp [tkK, e3, tkStep]) F.n (tk0 F) ⟨(restF_nil _).symm, rfl, by show (rng F.n).length ≤ F.n; rw [rng_len]; exact Nat.le_refl _, by show 0 + F.n ≤ F.n; omega⟩
  refine fnD_rt (ρ1 := tkK F (loopF tkC (tkStep F) F.n (tk0 F))) ?_
  show sem_taking_sequence mm_is_perfect_in mm_rest_of_lot [.im (frE F), .un, .un, .un, .un] S = _
  unfold sem_taking_sequence
  have e1 : sPar [1, 2] (aCons (eTup (aNil)) (aCons (eRgT (aCons (eBin gIx (eVar 0) (eC (.int 0))) aNil)) (aNil))) [.im (frE F), .un, .un, .un, .un] S = some (.nx, [.im (frE F), .im (tu ([] : List Int)), .im (tu (rng F.n)), .un, .un], S) := by
    simp [rgOf1 (show F.n ≤ 16777216 by omega), sizeLine_eq]
    exact ⟨rfl, rfl⟩
  have e2 := some_c1 (F := F) (found := []) (left := rng F.n) (s3 := .un) (S := S) (mr := mm_rest_of_lot) h (by rw [rng_len]; omega) (.inl rfl)
  have e2' : taking_sequence_c2 mm_is_perfect_in mm_rest_of_lot [.im (frE F), .im (tu ([] : List Int)), .im (tu (rng F.n)), .un, .un] S = _ := e2
  have e3 : sSet 3 (eFz (taking_sequence_c2 mm_is_perfect_in mm_rest_of_lot)) [.im (frE F), .im (tu ([] : List Int)), .im (tu (rng F.n)), .un, .un] S = some (.nx, tkK F (tk0 F), S) := by
    simp [e2', tkK, tk0]
  have e4 : taking_sequence_w1 mm_is_perfect_in mm_rest_of_lot (tkK F (tk0 F)) S = some (.nx, tkK F (loopF tkC (tkStep F) F.n (tk0 F)), S) := sWh_T key.1 (by unfold fuel; omega)
  rw [seqN e1, seqN e3, seqN e4]
  simp [tkK, takenF]
/-! ### the core -/
def coreF (F : Fr) : List Int := restF F.n (takenF F)
noncomputable def mm_core_of : FS := FSof e_fr (fun F => F.ok) (fun F => tu (coreF F))
theorem core_at {F : Fr} (h : F.ok) (S : Src) : mm_core_of [.im (frE F)] S = some (tu (coreF F), S) :=
  FSof_at (enc := e_fr) (a := F) (fun a b h => by rw [e_fr_inj a b h]) h S
theorem core_sem (F : Fr) (S : Src) (h : F.ok) : fnD 1 (sem_core_of mm_taking_sequence mm_rest_of_lot) (e_fr F) S = some (tu (coreF F), S) := by
  have e1 := taking_at h S
  have e2 := rest_at (n := F.n) (lot := takenF F) (by have := h.1; omega) S
  refine fnD_rt (ρ1 := e_fr F) ?_
  show sem_core_of mm_taking_sequence mm_rest_of_lot [.im (frE F)] S = _
  unfold sem_core_of
  simp [e1, e2, coreF, e_fr]
end Dn

set_option Elab.async false
set_option linter.all false
set_option maxRecDepth 100000
set_option maxHeartbeats 4000000
/-! N57: the law's own defs. -/
namespace Dn
open PySem PySem.Spec PyProof.Rows L2

/-! ### the dict of dicts looked into -/
theorem lookG : ∀ (R : List (List Int)) (k i : Nat) (l : List Int), R[i]? = some l → lookD (.inl ((k + i : Nat) : Int)) (nearG k R) = some (rowD l)
  | [], _, _, _, h => by simp at h
  | a :: R, k, 0, l, h => by
    simp at h
    subst h
    show (if keyOf (.int (k : Int)) = some (.inl ((k + 0 : Nat) : Int)) then some (rowD a) else _) = _
    rw [if_pos (by rfl)]
  | a :: R, k, i + 1, l, h => by
    have ih := lookG R (k + 1) i l (by simpa using h)
    show (if keyOf (.int (k : Int)) = some (.inl ((k + (i + 1) : Nat) : Int)) then some (rowD a) else lookD _ (nearG (k + 1) R)) = _
    rw [if_neg fun z => by
      have := Sum.inl.inj (Option.some.inj z)
      omega]
    rw [show k + (i + 1) = k + 1 + i by omega]
    exact ih
theorem flatG : ∀ (R : List (List Int)) (k : Nat), flatKeys (nearG k R) = true
  | [], _ => rfl
  | _ :: R, k => by
    show ((keyOf (.int (k : Int))).isSome && flatKeys (nearG (k + 1) R)) = true
    rw [flatG R (k + 1)]
    rfl
theorem near_ix {R : List (List Int)} {x : Nat} {l : List Int} (h : R[x]? = some l) : gIx (nearD R) (.int x) = some (.im (rowD l)) := by
  show (match keyOf (.int (x : Int)) with
    | some k => if flatKeys (nearG 0 R) = true then (lookD k (nearG 0 R)).map Rs.im else none
    | none => none) = _
  show (if flatKeys (nearG 0 R) = true then (lookD (.inl (x : Int)) (nearG 0 R)).map Rs.im else none) = _
  rw [if_pos (flatG R 0)]
  have := lookG R 0 x l h
  rw [Nat.zero_add] at this
  rw [this]
  rfl
theorem flat_row : ∀ l : List Int, flatKeys (l.map fun k => (PyData.int k, PyData.int 0)) = true
  | [] => rfl
  | k :: l => by
    show ((keyOf (.int k)).isSome && flatKeys _) = true
    rw [flat_row l]
    rfl
theorem look_row (y : Int) : ∀ l : List Int, (lookD (.inl y) (l.map fun k => (PyData.int k, PyData.int 0))).isSome = decide (y ∈ l)
  | [] => by simp [lookD]
  | k :: l => by
    show (if (some (.inl k) : Option Key) = some (.inl y) then some (PyData.int 0) else lookD (.inl y) (l.map fun k => (PyData.int k, PyData.int 0))).isSome = _
    by_cases c : k = y
    · rw [if_pos (by rw [c])]
      simp [c]
    · rw [if_neg fun z => c (Sum.inl.inj (Option.some.inj z)), look_row y l]
      simp [Ne.symm c]
theorem row_in (y : Int) (l : List Int) : gInS false (.int y) (rowD l) = some (.im (.bool (decide (y ∈ l)))) := by
  show chk (flatKeys (l.map fun k => (PyData.int k, PyData.int 0)) = true) (Rs.im (.bool (if false = true then _ else (lookD (.inl y) (l.map fun k => (PyData.int k, PyData.int 0))).isSome))) = _
  unfold chk
  rw [if_pos (flat_row l), if_neg Bool.false_ne_true, look_row]
theorem row_ni (y : Int) (l : List Int) : gInS true (.int y) (rowD l) = some (.im (.bool (!decide (y ∈ l)))) := by
  show chk (flatKeys (l.map fun k => (PyData.int k, PyData.int 0)) = true) (Rs.im (.bool (if true = true then !(lookD (.inl y) (l.map fun k => (PyData.int k, PyData.int 0))).isSome else _))) = _
  unfold chk
  rw [if_pos (flat_row l), if_pos rfl, look_row]

/-! ### all near -/
def rowOf (R : List (List Int)) (x : Int) : List Int := R.getD x.toNat []
theorem row_ix {R : List (List Int)} {x : Int} (h : x ∈ rng R.length) : gIx (nearD R) (.int x) = some (.im (rowD (rowOf R x))) := by
  obtain ⟨k, rfl, hk⟩ := rng_nat h
  refine near_ix ?_
  unfold rowOf
  rw [Int.toNat_natCast, List.getD_eq_getElem?_getD, List.getElem?_eq_getElem hk]
  rfl
def farOf (R : List (List Int)) (lot : List Int) (x : Int) : List Int := lot.filter fun y => !decide (y = x) && !decide (y ∈ rowOf R x)
def allNear (R : List (List Int)) (lot : List Int) : Bool := lot.all fun x => decide (farOf R lot x = [])
/-- a lot: a list (true) or a tuple -/
def sqE (k : Bool) (l : List Int) : PyData := seqE k (l.map en)
theorem sqE_it (k : Bool) (l : List Int) : itemsOf (sqE k l) = some (l.map en) := by cases k <;> rfl
theorem sqE_inj {k k' : Bool} {l l' : List Int} (h : sqE k l = sqE k' l') : l = l' := by
  have := seqE_inj h
  exact tu_inj (α := Int) (by unfold tu; rw [this])
def e_an (a : List (List Int) × Bool × List Int) : List Sl := [.im (nearD a.1), .im (sqE a.2.1 a.2.2)]
theorem map_inj {α β : Type} {f : α → β} (h : Function.Injective f) : ∀ {l m : List α}, l.map f = m.map f → l = m
  | [], [], _ => rfl
  | [], _ :: _, e => by cases e
  | _ :: _, [], e => by cases e
  | a :: l, b :: m, e => by
    rw [List.map_cons, List.map_cons] at e
    rw [h (List.cons.inj e).1, map_inj h (List.cons.inj e).2]
theorem nearG_inj : ∀ (R R' : List (List Int)) (k : Nat), nearG k R = nearG k R' → R = R'
  | [], [], _, _ => rfl
  | [], _ :: _, _, h => by simp [nearG] at h
  | _ :: _, [], _, h => by simp [nearG] at h
  | l :: R, l' :: R', k, h => by
    simp only [nearG, List.cons.injEq, Prod.mk.injEq, true_and] at h
    have h1 : l = l' := by
      have := h.1
      unfold rowD at this
      have q := PyData.dict.inj this
      have inj : Function.Injective fun k : Int => (PyData.int k, PyData.int 0) := fun a b z => by simpa using z
      exact map_inj inj q
    rw [h1, nearG_inj R R' (k + 1) h.2]
theorem nearD_inj {R R' : List (List Int)} (h : nearD R = nearD R') : R = R' := nearG_inj R R' 0 (PyData.dict.inj h)
noncomputable def mm_an : FS := FSof e_an (fun a => a.2.2.length ≤ 1000 ∧ ∀ x ∈ a.2.2, x ∈ rng a.1.length) (fun a => .bool (allNear a.1 a.2.2))
theorem an_at {R : List (List Int)} {k : Bool} {lot : List Int} (h : lot.length ≤ 1000) (hm : ∀ x ∈ lot, x ∈ rng R.length) (S : Src) : mm_an [.im (nearD R), .im (sqE k lot)] S = some (.bool (allNear R lot), S) :=
  FSof_at (enc := e_an) (a := (R, k, lot)) (fun a b h => by
    unfold e_an at h
    simp only [List.cons.injEq, Sl.im.injEq] at h
    rw [nearD_inj h.1, sqE_inj h.2.1]) ⟨h, hm⟩ S
theorem far_c1 {R : List (List Int)} {k : Bool} {lot : List Int} {x : Int} {S : Src} (h : lot.length ≤ 1000) (hx : x ∈ rng R.length) :
    _law_all_near_c1 [.im (nearD R), .im (sqE k lot), .im (.int x), .un] S = some (.ow (li (farOf R lot x)), [.im (nearD R), .im (sqE k lot), .im (.int x), .un], S) := by
  unfold _law_all_near_c1
  refine lc_evT (l := lot) (S1 := S) (ρ1 := [.im (nearD R), .im (sqE k lot), .im (.int x), .un]) _ (by simp [sqE_it]) (by rw [sizeLine_eq]; omega) rfl (by simp) fun y hy => ?_
  have e := row_ix hx
  by_cases c : y = x
  · simp [en_int, c]
  · simp [en_int, c, e, row_ni]
theorem an_sem (a : List (List Int) × Bool × List Int) (S : Src) (h : a.2.2.length ≤ 1000 ∧ ∀ x ∈ a.2.2, x ∈ rng a.1.length) : fnD 4 sem__law_all_near (e_an a) S = some (.bool (allNear a.1 a.2.2), S) := by
  obtain ⟨R, k, lot⟩ := a
  obtain ⟨h, hm⟩ := h
  simp only at h hm
  have key := forR (τ := Sl) (en (α := Int)) (g := gNm 2) (b := (sIf (ofE (eBin gNe ((_law_all_near_c1)) (eLst (aNil)))) (sRet (eC (.bool false))) (sNil))) (fun t => [.im (nearD R), .im (sqE k lot), t, .un]) (fun _ => S) (fun _ x => .im (.int x)) (fun _ x => if farOf R lot x = [] then none else some (.bool false)) (fun _ l => ∀ x ∈ l, x ∈ rng R.length)
    (fun x l t p => by
      have c := far_c1 (k := k) (S := S) h (p x (List.mem_cons_self ..))
      refine ⟨[.im (nearD R), .im (sqE k lot), .im (.int x), .un], rfl, ?_⟩
      by_cases c1 : farOf R lot x = []
      · rw [if_pos c1]
        refine ⟨?_, fun y hy => p y (List.mem_cons_of_mem _ hy)⟩
        simp [c, sizeLine_eq, gNe_liN, c1]
      · rw [if_neg c1]
        exact ⟨[.im (nearD R), .im (sqE k lot), .im (.int x), .un], S, by simp [c, sizeLine_eq, gNe_liN, c1], rfl⟩) lot .un hm
  have it : itF (eVar 1) [.im (nearD R), .im (sqE k lot), .un, .un] S = some (lot.map en, [.im (nearD R), .im (sqE k lot), .un, .un], S) := by simp [sqE_it]
  rcases key with ⟨ρ2, k1, k2, _, k4⟩ | ⟨l1, x, l2, d, ρ2, k1, k2, _, k4⟩
  · have e : _law_all_near_f1 [.im (nearD R), .im (sqE k lot), .un, .un] S = some (.nx, ρ2, S) := by
      unfold _law_all_near_f1
      rw [sFor_ap, it, bindS]
      exact k1
    have all : allNear R lot = true := by
      unfold allNear
      rw [List.all_eq_true]
      intro x hx
      obtain ⟨l1, l2, e⟩ := List.append_of_mem hx
      have := k4 l1 x l2 e
      by_cases c : farOf R lot x = []
      · exact decide_eq_true c
      · rw [if_neg c] at this; cases this
    refine fnD_rt (ρ1 := ρ2) ?_
    show sem__law_all_near [.im (nearD R), .im (sqE k lot), .un, .un] S = _
    unfold sem__law_all_near
    rw [seqN e, all]
    simp
  · have no : ¬ farOf R lot x = [] := fun c => by rw [if_pos c] at k2; cases k2
    rw [if_neg no] at k2
    cases k2
    have e : _law_all_near_f1 [.im (nearD R), .im (sqE k lot), .un, .un] S = some (.rt (.bool false), ρ2, S) := by
      unfold _law_all_near_f1
      rw [sFor_ap, it, bindS]
      exact k4
    have all : allNear R lot = false := by
      unfold allNear
      rw [List.all_eq_false]
      exact ⟨x, by rw [k1]; simp, by simp [no]⟩
    refine fnD_rt (ρ1 := ρ2) ?_
    show sem__law_all_near [.im (nearD R), .im (sqE k lot), .un, .un] S = _
    unfold sem__law_all_near
    rw [seqR e, all]

/-! ### perfect by the law -/
def perfL (R : List (List Int)) (lot : List Int) (x : Int) : Bool := allNear R (lot.filter fun y => decide (y ∈ rowOf R x))
def e_pl (a : List (List Int) × Bool × List Int × Int) : List Sl := [.im (nearD a.1), .im (sqE a.2.1 a.2.2.1), .im (.int a.2.2.2)]
noncomputable def mm_pl : FS := FSof e_pl (fun a => a.2.2.1.length ≤ 1000 ∧ (∀ x ∈ a.2.2.1, x ∈ rng a.1.length) ∧ a.2.2.2 ∈ rng a.1.length) (fun a => .bool (perfL a.1 a.2.2.1 a.2.2.2))
theorem pl_at {R : List (List Int)} {k : Bool} {lot : List Int} {x : Int} (h : lot.length ≤ 1000) (hm : ∀ x ∈ lot, x ∈ rng R.length) (hx : x ∈ rng R.length) (S : Src) : mm_pl [.im (nearD R), .im (sqE k lot), .im (.int x)] S = some (.bool (perfL R lot x), S) :=
  FSof_at (enc := e_pl) (a := (R, k, lot, x)) (fun a b h => by
    unfold e_pl at h
    simp only [List.cons.injEq, Sl.im.injEq, PyData.int.injEq] at h
    rw [nearD_inj h.1, sqE_inj h.2.1, h.2.2.1]) ⟨h, hm, hx⟩ S
theorem pl_sem (a : List (List Int) × Bool × List Int × Int) (S : Src) (h : a.2.2.1.length ≤ 1000 ∧ (∀ x ∈ a.2.2.1, x ∈ rng a.1.length) ∧ a.2.2.2 ∈ rng a.1.length) : fnD 4 (sem__law_perfect mm_an) (e_pl a) S = some (.bool (perfL a.1 a.2.2.1 a.2.2.2), S) := by
  obtain ⟨R, k, lot, x⟩ := a
  obtain ⟨h, hm, hx⟩ := h
  simp only at h hm hx
  have c : _law_perfect_c1 mm_an [.im (nearD R), .im (sqE k lot), .im (.int x), .un] S = some (.ow (li (lot.filter fun y => decide (y ∈ rowOf R x))), [.im (nearD R), .im (sqE k lot), .im (.int x), .un], S) := by
    unfold _law_perfect_c1
    refine lc_evT (l := lot) (S1 := S) (ρ1 := [.im (nearD R), .im (sqE k lot), .im (.int x), .un]) _ (by simp [sqE_it]) (by rw [sizeLine_eq]; omega) rfl (by simp) fun y hy => ?_
    simp [en_int, row_ix hx, row_in]
  have e := an_at (R := R) (k := true) (lot := lot.filter fun y => decide (y ∈ rowOf R x)) (Nat.le_trans (List.length_filter_le _ _) h) (fun y hy => hm y (List.mem_filter.mp hy).1) S
  have e' : mm_an [.im (nearD R), .im (li (lot.filter fun y => decide (y ∈ rowOf R x)))] S = some (.bool (perfL R lot x), S) := e
  refine fnD_rt (ρ1 := [.im (nearD R), .im (sqE k lot), .im (.int x), .un]) ?_
  show sem__law_perfect mm_an [.im (nearD R), .im (sqE k lot), .im (.int x), .un] S = _
  unfold sem__law_perfect
  simp [c, e']

/-! ### taken by the law -/
def someL (R : List (List Int)) (left : List Int) : List Int := left.filter (perfL R left)
def ltStep (R : List (List Int)) (t : TS) : TS := (t.1 ++ [t.2.2.headD 0], t.2.1.filter (fun y => !decide (y = t.2.2.headD 0)), someL R (t.2.1.filter fun y => !decide (y = t.2.2.headD 0)))
def lt0 (R : List (List Int)) : TS := ([], rng R.length, someL R (rng R.length))
def takenL (R : List (List Int)) : List Int := (loopF tkC (ltStep R) R.length (lt0 R)).1
def ltK (R : List (List Int)) (t : TS) : Rho := [.im (nearD R), .im (.int R.length), .ow (li t.1), .im (li t.2.1), .im (li t.2.2), .un]
def e_lt (R : List (List Int)) : List Sl := [.im (nearD R), .im (.int R.length)]
noncomputable def mm_lt : FS := FSof e_lt (fun R => R.length ≤ 64) (fun R => tu (takenL R))
theorem lt_at {R : List (List Int)} (h : R.length ≤ 64) (S : Src) : mm_lt [.im (nearD R), .im (.int R.length)] S = some (tu (takenL R), S) :=
  FSof_at (enc := e_lt) (a := R) (fun a b h => by
    unfold e_lt at h
    simp only [List.cons.injEq, Sl.im.injEq] at h
    rw [nearD_inj h.1]) h S
def ltP (R : List (List Int)) (m : Nat) (t : TS) : Prop := (∀ x ∈ t.2.1, x ∈ rng R.length) ∧ t.2.2 = someL R t.2.1 ∧ t.2.1.length ≤ m ∧ t.1.length + m ≤ R.length
theorem somel_c {R : List (List Int)} {found left : List Int} {s2 s4 : Sl} {S : Src} (h : R.length ≤ 64) (hl : left.length ≤ 1000) (hm : ∀ x ∈ left, x ∈ rng R.length) (h4 : roSl s4 = s4) :
    _law_taken_c1 mm_pl [.im (nearD R), .im (.int R.length), s2, .im (li left), s4, .un] S = some (.ow (li (someL R left)), [.im (nearD R), .im (.int R.length), s2, .im (li left), s4, .un], S) := by
  unfold _law_taken_c1
  refine lc_evT (l := left) (S1 := S) (ρ1 := [.im (nearD R), .im (.int R.length), s2, .im (li left), s4, .un]) _ (by simp) (by rw [sizeLine_eq]; omega) rfl (by simp) fun y hy => ?_
  have e : mm_pl [.im (nearD R), .im (li left), .im (.int y)] S = some (.bool (perfL R left y), S) := pl_at (k := true) hl hm (hm y hy) S
  simp [en_int, e, h4]
theorem lt_sem (R : List (List Int)) (S : Src) (h : R.length ≤ 64) : fnD 6 (sem__law_taken mm_pl) (e_lt R) S = some (tu (takenL R), S) := by
  have key := whT (τ := TS) (t := ofE (eBin gNe (eVar 4) (eLst (aNil)))) (b := (sSeq (sExpr (eOwn 2 oAppend (aCons (eBin gIx (eVar 4) (eC (.int 0))) (aNil)))) (sSeq (sSet 3 (eFz ((_law_taken_c2 mm_pl)))) (sSet 4 (eFz ((_law_taken_c1 mm_pl)))))))
    (ltK R) (fun _ => S) tkC (ltStep R) (ltP R) (fun m t p => by simp [ltK, tkC, sizeLine_eq, gNe_liN]) (fun m t p hc => by
      obtain ⟨found, left, some'⟩ := t
      obtain ⟨p1, p2, p3, p4⟩ := p
      simp only at p1 p2 p3 p4
      cases some' with
      | nil => simp [tkC] at hc
      | cons y r =>
        have hy : y ∈ left := by
          have : y ∈ someL R left := by rw [← p2]; exact List.mem_cons_self ..
          exact (List.mem_filter.mp this).1
        have hlt : (left.filter fun z => !decide (z = y)).length < left.length := filter_lt hy (by simp)
        have ap := app_ev (α := Int) (ρ := ltK R (found, left, y :: r)) (S := S) (i := 2) (t := found) (a := y) (f := eBin gIx (eVar 4) (eC (.int 0))) (r := .im (en y)) (ρ1 := ltK R (found, left, y :: r)) (ρ2 := ltK R (found, left, y :: r)) (S1 := S) rfl (by simp [ltK]) rfl rfl (by rw [sizeLine_eq]; omega)
        have e1 : sExpr (eOwn 2 oAppend (aCons (eBin gIx (eVar 4) (eC (.int 0))) (aNil))) (ltK R (found, left, y :: r)) S = some (.nx, ltK R (found ++ [y], left, y :: r), S) := by
          rw [sExpr_ap, ap]
          rfl
        have c2 : _law_taken_c2 mm_pl (ltK R (found ++ [y], left, y :: r)) S = some (.ow (li (left.filter fun z => !decide (z = y))), ltK R (found ++ [y], left, y :: r), S) := by
          unfold _law_taken_c2
          refine lc_evT (l := left) (S1 := S) (ρ1 := ltK R (found ++ [y], left, y :: r)) _ (by simp [ltK]) (by rw [sizeLine_eq]; omega) rfl (by simp [ltK]) fun z hz => ?_
          simp [ltK, en_int]
        have e2 : sSet 3 (eFz (_law_taken_c2 mm_pl)) (ltK R (found ++ [y], left, y :: r)) S = some (.nx, ltK R (found ++ [y], left.filter (fun z => !decide (z = y)), y :: r), S) := by
          rw [sSet_ap, eFz_ap, c2]
          rfl
        have c1 := somel_c (R := R) (found := found) (left := left.filter fun z => !decide (z = y)) (s2 := .ow (li (found ++ [y]))) (s4 := .im (li (y :: r))) (S := S) h (by omega) (fun z hz => p1 z (List.mem_filter.mp hz).1) rfl
        have e3 : sSet 4 (eFz (_law_taken_c1 mm_pl)) (ltK R (found ++ [y], left.filter (fun z => !decide (z = y)), y :: r)) S = some (.nx, ltK R (ltStep R (found, left, y :: r)), S) := by
          rw [sSet_ap, eFz_ap, show ltK R (found ++ [y], left.filter (fun z => !decide (z = y)), y :: r) = [.im (nearD R), .im (.int R.length), .ow (li (found ++ [y])), .im (li (left.filter fun z => !decide (z = y))), .im (li (y :: r)), .un] from rfl, c1]
          rfl
        refine ⟨m - 1, by omega, ⟨fun z hz => p1 z (List.mem_filter.mp hz).1, rfl, ?_, ?_⟩, .inl ?_⟩
        · show (left.filter fun z => !decide (z = y)).length ≤ m - 1
          omega
        · show (found ++ [y]).length + (m - 1) ≤ R.length
          simp; omega
        · rw [seqN e1, seqN e2, e3]) R.length (lt0 R) ⟨fun x hx => hx, rfl, by show (rng R.length).length ≤ R.length; rw [rng_len]; exact Nat.le_refl _, by show 0 + R.length ≤ R.length; omega⟩
  have e1 : sPar [2, 3] (aCons (eLst (aNil)) (aCons (eFz (eRgL (aCons (eVar 1) aNil))) (aNil))) [.im (nearD R), .im (.int R.length), .un, .un, .un, .un] S = some (.nx, [.im (nearD R), .im (.int R.length), .ow (li ([] : List Int)), .im (li (rng R.length)), .un, .un], S) := by
    simp [rgOf1 (show R.length ≤ 16777216 by omega), sizeLine_eq]
    exact ⟨rfl, rfl⟩
  have c3 := somel_c (R := R) (found := []) (left := rng R.length) (s2 := .ow (li ([] : List Int))) (s4 := .un) (S := S) h (by rw [rng_len]; omega) (fun x hx => hx) rfl
  have c3' : _law_taken_c3 mm_pl [.im (nearD R), .im (.int R.length), .ow (li ([] : List Int)), .im (li (rng R.length)), .un, .un] S = _ := c3
  have e2 : sSet 4 (eFz (_law_taken_c3 mm_pl)) [.im (nearD R), .im (.int R.length), .ow (li ([] : List Int)), .im (li (rng R.length)), .un, .un] S = some (.nx, ltK R (lt0 R), S) := by
    rw [sSet_ap, eFz_ap, c3']
    rfl
  have e3 : _law_taken_w1 mm_pl (ltK R (lt0 R)) S = some (.nx, ltK R (loopF tkC (ltStep R) R.length (lt0 R)), S) := sWh_T key.1 (by unfold fuel; omega)
  refine fnD_rt (ρ1 := ltK R (loopF tkC (ltStep R) R.length (lt0 R))) ?_
  show sem__law_taken mm_pl [.im (nearD R), .im (.int R.length), .un, .un, .un, .un] S = _
  unfold sem__law_taken
  rw [seqN e1, seqN e2, seqN e3]
  have v : eVar 2 (ltK R (loopF tkC (ltStep R) R.length (lt0 R))) S = some (.bo 2, ltK R (loopF tkC (ltStep R) R.length (lt0 R)), S) := rfl
  have d : datOf (ltK R (loopF tkC (ltStep R) R.length (lt0 R))) (.bo 2) = some (li (takenL R)) := rfl
  simp [-eVar_ap, -datOf_bo, v, d]
end Dn

set_option Elab.async false
set_option linter.all false
set_option maxRecDepth 100000
set_option maxHeartbeats 4000000
/-! M57: the mathematics of perfect crossings. -/
namespace Dn
open PySem PySem.Spec PyProof.Rows L2

/-- a road between unlike x and y -/
def Nb (roads : List (Int × Int)) (x y : Int) : Prop := ∃ r ∈ roads, r.1 ≠ r.2 ∧ ((x = r.1 ∧ y = r.2) ∨ (x = r.2 ∧ y = r.1))
theorem Nb.ne {roads : List (Int × Int)} {x y : Int} (h : Nb roads x y) : x ≠ y := by
  obtain ⟨r, _, h1, h2⟩ := h
  rcases h2 with ⟨rfl, rfl⟩ | ⟨rfl, rfl⟩
  · exact h1
  · exact fun z => h1 z.symm
theorem nb_cons {r : Int × Int} {l : List (Int × Int)} {x y : Int} : Nb (r :: l) x y ↔ (r.1 ≠ r.2 ∧ ((x = r.1 ∧ y = r.2) ∨ (x = r.2 ∧ y = r.1))) ∨ Nb l x y := by
  constructor
  · rintro ⟨s, hs, h⟩
    rcases List.mem_cons.mp hs with rfl | hs
    · exact .inl h
    · exact .inr ⟨s, hs, h⟩
  · rintro (h | ⟨s, hs, h⟩)
    · exact ⟨r, List.mem_cons_self .., h⟩
    · exact ⟨s, List.mem_cons_of_mem _ hs, h⟩
theorem mem_fnd (roads : List (Int × Int)) (x y : Int) : y ∈ fndR roads x ↔ Nb roads x y := by
  have key : ∀ (l : List (Int × Int)) (f : List Int), y ∈ l.foldl (fndS x) f ↔ y ∈ f ∨ Nb l x y := by
    intro l
    induction l with
    | nil => intro f; simp [Nb]
    | cons r l ih =>
      intro f
      rw [List.foldl_cons, ih]
      have e : y ∈ fndS x f r ↔ y ∈ f ∨ (r.1 ≠ r.2 ∧ ((x = r.1 ∧ y = r.2) ∨ (x = r.2 ∧ y = r.1))) := by
        unfold fndS
        by_cases c : r.1 ≠ r.2 ∧ (x = r.1 ∨ x = r.2)
        · rw [if_pos c, List.mem_append, List.mem_singleton]
          by_cases d : r.1 = x
          · rw [if_pos d]
            constructor
            · rintro (h | h)
              · exact .inl h
              · exact .inr ⟨c.1, .inl ⟨d.symm, h⟩⟩
            · rintro (h | ⟨_, ⟨_, h⟩ | ⟨h1, _⟩⟩)
              · exact .inl h
              · exact .inr h
              · exact absurd (d.trans h1) c.1
          · rw [if_neg d]
            constructor
            · rintro (h | h)
              · exact .inl h
              · refine .inr ⟨c.1, .inr ⟨?_, h⟩⟩
                rcases c.2 with z | z
                · exact absurd z.symm d
                · exact z
            · rintro (h | ⟨_, ⟨h1, _⟩ | ⟨_, h⟩⟩)
              · exact .inl h
              · exact absurd h1.symm d
              · exact .inr h
        · rw [if_neg c]
          constructor
          · exact .inl
          · rintro (h | ⟨h1, h2⟩)
            · exact h
            · refine absurd ⟨h1, ?_⟩ c
              rcases h2 with ⟨h, _⟩ | ⟨h, _⟩
              · exact .inl h
              · exact .inr h
      rw [e]
      rw [nb_cons, or_assoc]
  have := key roads []
  simpa [fndR] using this
theorem mem_addKey (l : List Int) (b y : Int) : y ∈ addKey l b ↔ y ∈ l ∨ y = b := by
  unfold addKey
  split
  · rename_i h
    constructor
    · exact .inl
    · rintro (h' | rfl)
      · exact h'
      · exact h
  · rw [List.mem_append, List.mem_singleton]
theorem mem_modify {R : List (List Int)} {i x : Nat} {b y : Int} (hi : i < R.length) : y ∈ (R.modify i fun l => addKey l b).getD x [] ↔ y ∈ R.getD x [] ∨ (x = i ∧ y = b) := by
  rw [List.getD_eq_getElem?_getD, List.getD_eq_getElem?_getD, List.getElem?_modify]
  by_cases c : i = x
  · subst c
    rw [List.getElem?_eq_getElem hi]
    simp [mem_addKey]
  · cases q : R[x]? with
    | none => simp [c, Ne.symm c]
    | some l =>
      simp [c]
      intro z
      exact absurd z.symm c
theorem mem_row {F : Fr} (h : F.ok) {x : Int} (hx : x ∈ rng F.n) (y : Int) : y ∈ rowOf (nearR F) x ↔ Nb F.roads x y := by
  have key : ∀ (l : List (Int × Int)) (R : List (List Int)), R.length = F.n → (∀ r ∈ l, r.1 ∈ rng F.n ∧ r.2 ∈ rng F.n) → (y ∈ (l.foldl nearS R).getD x.toNat [] ↔ y ∈ R.getD x.toNat [] ∨ Nb l x y) := by
    intro l
    induction l with
    | nil => intro R _ _; simp [Nb]
    | cons r l ih =>
      intro R hR hl
      rw [List.foldl_cons, ih _ (by rw [nearS_len]; exact hR) fun s hs => hl s (List.mem_cons_of_mem _ hs)]
      have hr := hl r (List.mem_cons_self ..)
      obtain ⟨a, ea, ha⟩ := rng_nat hr.1
      obtain ⟨b, eb, hb⟩ := rng_nat hr.2
      obtain ⟨k, rfl, hk⟩ := rng_nat hx
      have e : y ∈ (nearS R r).getD (k : Int).toNat [] ↔ y ∈ R.getD (k : Int).toNat [] ∨ (r.1 ≠ r.2 ∧ (((k : Int) = r.1 ∧ y = r.2) ∨ ((k : Int) = r.2 ∧ y = r.1))) := by
        unfold nearS
        by_cases c : r.1 = r.2
        · rw [if_pos c]; simp [c]
        · rw [if_neg c, ea, eb, Int.toNat_natCast, Int.toNat_natCast, Int.toNat_natCast]
          rw [mem_modify (by rw [List.length_modify, hR]; exact hb), mem_modify (by rw [hR]; exact ha)]
          have c' : (a : Int) ≠ b := by rw [← ea, ← eb]; exact c
          constructor
          · rintro ((h | ⟨rfl, rfl⟩) | ⟨rfl, rfl⟩)
            · exact .inl h
            · exact .inr ⟨c', .inl ⟨rfl, rfl⟩⟩
            · exact .inr ⟨c', .inr ⟨rfl, rfl⟩⟩
          · rintro (h | ⟨_, ⟨h1, h2⟩ | ⟨h1, h2⟩⟩)
            · exact .inl (.inl h)
            · exact .inl (.inr ⟨by omega, h2⟩)
            · exact .inr ⟨by omega, h2⟩
      rw [e]
      rw [nb_cons, or_assoc]
  have := key F.roads (List.replicate F.n []) (by rw [List.length_replicate]) h.2.2
  unfold rowOf nearR
  rw [this]
  constructor
  · rintro (h | h)
    · rw [List.getD_eq_getElem?_getD, List.getElem?_replicate] at h
      split at h
      · cases h
      · cases h
    · exact h
  · exact .inr
theorem nearR_len (F : Fr) : (nearR F).length = F.n := by
  have key : ∀ (l : List (Int × Int)) (R : List (List Int)), (l.foldl nearS R).length = R.length := by
    intro l
    induction l with
    | nil => intro R; rfl
    | cons r l ih => intro R; rw [List.foldl_cons, ih, nearS_len]
  unfold nearR
  rw [key, List.length_replicate]
/-- the neighbours in a lot, by either -/
theorem nbIn_row {F : Fr} (h : F.ok) {x : Int} (hx : x ∈ rng F.n) (lot : List Int) : nbIn F lot x = lot.filter fun y => decide (y ∈ rowOf (nearR F) x) := by
  unfold nbIn
  apply List.filter_congr
  intro y _
  rw [Bool.eq_iff_iff, decide_eq_true_iff, decide_eq_true_iff, mem_fnd, mem_row h hx]
/-- a lot: things of the range, all unlike -/
structure Lot (n : Nat) (l : List Int) : Prop where
  mem : ∀ x ∈ l, x ∈ rng n
  nd : l.Nodup
theorem Lot.sub {n : Nat} {l m : List Int} (h : Lot n l) (s : List.Sublist m l) : Lot n m := ⟨fun x hx => h.mem x (s.subset hx), h.nd.sublist s⟩
theorem Lot.filter {n : Nat} {l : List Int} (h : Lot n l) (p : Int → Bool) : Lot n (l.filter p) := h.sub (List.filter_sublist)
theorem rng_nd (n : Nat) : (rng n).Nodup := by
  unfold rng List.Nodup
  rw [List.pairwise_map]
  exact (List.nodup_range (n := n)).imp fun h e => h (Int.ofNat.inj e)
theorem lot_rng (n : Nat) : Lot n (rng n) := ⟨fun _ h => h, rng_nd n⟩
/-- one of a lot, its neighbours, the others: all of the lot -/
theorem parts {lot : List Int} (hn : lot.Nodup) {x : Int} (hx : x ∈ lot) (p : Int → Prop) [DecidablePred p] (hp : ¬ p x) :
    lot.length = (lot.filter fun y => decide (p y)).length + 1 + (lot.filter fun y => !decide (y = x) && !decide (p y)).length := by
  induction lot with
  | nil => cases hx
  | cons a l ih =>
    have hn' := List.nodup_cons.mp hn
    by_cases c : a = x
    · subst c
      have e : ∀ l : List Int, a ∉ l → l.length = (l.filter fun y => decide (p y)).length + (l.filter fun y => !decide (y = a) && !decide (p y)).length := by
        intro l
        induction l with
        | nil => intro _; rfl
        | cons b l ih =>
          intro h
          have h1 : b ≠ a := fun z => h (by rw [z]; exact List.mem_cons_self ..)
          have h2 := ih fun z => h (List.mem_cons_of_mem _ z)
          by_cases q : p b
          · simp [q, h1]; omega
          · simp [q, h1]; omega
      have := e l hn'.1
      simp [hp]
      omega
    · have h1 : x ∈ l := by
        rcases List.mem_cons.mp hx with z | z
        · exact absurd z.symm c
        · exact z
      have := ih hn'.2 h1
      by_cases q : p a
      · simp [q, c]; omega
      · simp [q, c]; omega
/-- all neighbours, by either -/
theorem all_eq {F : Fr} (h : F.ok) {lot : List Int} (hl : Lot F.n lot) : allNb F lot = allNear (nearR F) lot := by
  have far : ∀ x ∈ lot, (((nbIn F lot x).length : Int) < (lot.length : Int) - 1 ↔ ¬ farOf (nearR F) lot x = []) := fun x hx => by
    have hxr := hl.mem x hx
    rw [nbIn_row h hxr]
    have np : ¬ x ∈ rowOf (nearR F) x := fun z => ((mem_row h hxr x).mp z).ne rfl
    have e := parts hl.nd hx (fun y => y ∈ rowOf (nearR F) x) np
    have e2 : farOf (nearR F) lot x = [] ↔ (lot.filter fun y => !decide (y = x) && !decide (y ∈ rowOf (nearR F) x)).length = 0 := List.length_eq_zero_iff.symm
    rw [e2]
    omega
  unfold allNb allNear
  rw [Bool.eq_iff_iff, decide_eq_true_iff, List.filter_eq_nil_iff, List.all_eq_true]
  constructor
  · intro q x hx
    have := q x hx
    rw [decide_eq_true_iff, far x hx] at this
    exact decide_eq_true (Decidable.not_not.mp this)
  · intro q x hx
    rw [decide_eq_true_iff, far x hx]
    exact not_not_intro (of_decide_eq_true (q x hx))
theorem perf_eq {F : Fr} (h : F.ok) {lot : List Int} (hl : Lot F.n lot) {x : Int} (hx : x ∈ rng F.n) : perf F lot x = perfL (nearR F) lot x := by
  unfold perf perfL
  rw [nbIn_row h hx]
  exact all_eq h (hl.filter _)
theorem some_eq {F : Fr} (h : F.ok) {left : List Int} (hl : Lot F.n left) : someOf F left = someL (nearR F) left := by
  unfold someOf someL
  apply List.filter_congr
  intro x hx
  exact perf_eq h hl (hl.mem x hx)
/-- a perfect one stays so in a lesser lot -/
theorem allNear_sub {R : List (List Int)} {l m : List Int} (s : List.Sublist m l) (h : allNear R l = true) : allNear R m = true := by
  unfold allNear at h ⊢
  rw [List.all_eq_true] at h ⊢
  intro x hx
  have := of_decide_eq_true (h x (s.subset hx))
  refine decide_eq_true (List.eq_nil_of_sublist_nil ?_)
  rw [← this]
  exact s.filter _
theorem perfL_sub {R : List (List Int)} {l m : List Int} (s : List.Sublist m l) {x : Int} (h : perfL R l x = true) : perfL R m x = true := allNear_sub (s.filter _) h
/-! ### what is taken -/
theorem taken_eq {F : Fr} (h : F.ok) : takenF F = takenL (nearR F) := by
  have key : ∀ (k : Nat) (t : TS), t.2.1 = restF F.n t.1 → Lot F.n t.2.1 → loopF tkC (tkStep F) k t = loopF tkC (ltStep (nearR F)) k t := by
    intro k
    induction k with
    | zero => intro t _ _; rfl
    | succ k ih =>
      intro t h1 h2
      have e : tkStep F t = ltStep (nearR F) t := by
        unfold tkStep ltStep
        rw [restF_snoc, ← h1, some_eq h (h2.filter _)]
      show (if tkC t then loopF tkC (tkStep F) k (tkStep F t) else t) = (if tkC t then loopF tkC (ltStep (nearR F)) k (ltStep (nearR F) t) else t)
      rw [← e]
      by_cases c : tkC t = true
      · rw [if_pos c, if_pos c]
        refine ih _ rfl ?_
        show Lot F.n (restF F.n _)
        rw [restF_snoc, ← h1]
        exact h2.filter _
      · rw [if_neg c, if_neg c]
  unfold takenF takenL
  rw [key F.n (tk0 F) (restF_nil _).symm (lot_rng _)]
  unfold tk0 lt0
  rw [nearR_len, some_eq h (lot_rng _)]
/-- from all, perfect ones taken one by one -/
inductive Red (R : List (List Int)) (n : Nat) : List Int → Prop
  | all : Red R n (rng n)
  | take {l : List Int} {x : Int} : Red R n l → x ∈ l → perfL R l x = true → Red R n (l.filter fun y => !decide (y = x))
theorem Red.sub {R : List (List Int)} {n : Nat} {l : List Int} (h : Red R n l) : List.Sublist l (rng n) := by
  induction h with
  | all => exact List.Sublist.refl _
  | take _ _ _ ih => exact (List.filter_sublist).trans ih
theorem sub_of_mem {n : Nat} {c l : List Int} (hc : List.Sublist c (rng n)) (hl : List.Sublist l (rng n)) (h : ∀ x ∈ c, x ∈ l) : List.Sublist c l := by
  have flt : ∀ (u m : List Int), List.Sublist m u → u.Nodup → m = u.filter fun y => decide (y ∈ m) := by
    intro u m s
    induction s with
    | slnil => intro _; rfl
    | @cons m u a s ih =>
      intro hn
      have hn' := List.nodup_cons.mp hn
      have na : a ∉ m := fun z => hn'.1 (s.subset z)
      rw [List.filter_cons_of_neg (by simpa using na)]
      exact ih hn'.2
    | @cons_cons m u a s ih =>
      intro hn
      have hn' := List.nodup_cons.mp hn
      rw [List.filter_cons_of_pos (by simp)]
      congr 1
      refine (ih hn'.2).trans ?_
      apply List.filter_congr
      intro y hy
      have : y ≠ a := fun z => hn'.1 (by rw [← z]; exact hy)
      simp [this]
  have e1 := flt _ _ hc (rng_nd n)
  have e2 := flt _ _ hl (rng_nd n)
  rw [e1, e2]
  have : (rng n).filter (fun y => decide (y ∈ c)) = ((rng n).filter fun y => decide (y ∈ l)).filter fun y => decide (y ∈ c) := by
    rw [List.filter_filter]
    apply List.filter_congr
    intro y _
    by_cases q : y ∈ c
    · simp [q, h y q]
    · simp [q]
  rw [this]
  exact List.filter_sublist
/-- whichever is taken: what is left is one -/
theorem red_end {R : List (List Int)} {n : Nat} {c l : List Int} (hc : Red R n c) (he : someL R c = []) (hl : Red R n l) : ∀ x ∈ c, x ∈ l := by
  induction hl with
  | all => exact fun x hx => hc.sub.subset hx
  | @take l y hl hy hp ih =>
    intro x hx
    rw [List.mem_filter]
    refine ⟨ih x hx, ?_⟩
    simp only [Bool.not_eq_true', decide_eq_false_iff_not]
    rintro rfl
    have s := sub_of_mem hc.sub hl.sub ih
    have : x ∈ someL R c := List.mem_filter.mpr ⟨hx, perfL_sub s hp⟩
    rw [he] at this
    cases this
theorem red_uniq {R : List (List Int)} {n : Nat} {c l : List Int} (hc : Red R n c) (h1 : someL R c = []) (hl : Red R n l) (h2 : someL R l = []) : c = l := by
  have s1 := sub_of_mem hc.sub hl.sub (red_end hc h1 hl)
  have s2 := sub_of_mem hl.sub hc.sub (red_end hl h2 hc)
  exact s1.eq_of_length_le s2.length_le
end Dn

set_option Elab.async false
set_option linter.all false
set_option maxRecDepth 100000
set_option maxHeartbeats 4000000
/-! L57: what is left at the end; the law answers true. -/
namespace Dn
open PySem PySem.Spec PyProof.Rows L2

theorem taken_end (R : List (List Int)) : Red R R.length (restF R.length (takenL R)) ∧ someL R (restF R.length (takenL R)) = [] := by
  have key : ∀ (k : Nat) (t : TS), t.2.1 = restF R.length t.1 → t.2.2 = someL R t.2.1 → t.2.1.length ≤ k → Red R R.length t.2.1 →
      Red R R.length (restF R.length (loopF tkC (ltStep R) k t).1) ∧ someL R (restF R.length (loopF tkC (ltStep R) k t).1) = [] := by
    intro k
    induction k with
    | zero =>
      intro t h1 h2 h3 h4
      show Red R R.length (restF R.length t.1) ∧ someL R (restF R.length t.1) = []
      rw [← h1]
      refine ⟨h4, ?_⟩
      rw [List.length_eq_zero_iff.mp (Nat.le_zero.mp h3)]
      rfl
    | succ k ih =>
      intro t h1 h2 h3 h4
      show Red R R.length (restF R.length (if tkC t then loopF tkC (ltStep R) k (ltStep R t) else t).1) ∧ someL R (restF R.length (if tkC t then loopF tkC (ltStep R) k (ltStep R t) else t).1) = []
      by_cases c : tkC t = true
      · rw [if_pos c]
        obtain ⟨found, left, some'⟩ := t
        simp only at h1 h2 h3 h4
        cases some' with
        | nil => simp [tkC] at c
        | cons x r =>
          have hx : x ∈ someL R left := by rw [← h2]; exact List.mem_cons_self ..
          have hx' := List.mem_filter.mp hx
          have lt := filter_lt (p := fun y => !decide (y = x)) hx'.1 (by simp)
          refine ih _ ?_ rfl ?_ (Red.take h4 hx'.1 hx'.2)
          · show left.filter (fun y => !decide (y = x)) = restF R.length (found ++ [x])
            rw [restF_snoc, ← h1]
          · show (left.filter (fun y => !decide (y = x))).length ≤ k
            omega
      · rw [if_neg c, ← h1]
        refine ⟨h4, ?_⟩
        rw [← h2]
        have : (!decide (t.2.2 = [])) = false := Bool.eq_false_iff.mpr c
        simpa using this
  exact key R.length (lt0 R) (restF_nil _).symm rfl (by show (rng R.length).length ≤ _; rw [rng_len]; exact Nat.le_refl _) Red.all

/-! ### what the law calls -/
def fLots : FS := fnD 4 semLots
noncomputable def fFrm : FS := fnD 9 (semFrm mm_pick mm_mixed)
noncomputable abbrev LW1 := law_w1 mm_core_of mm_pl mm_of mm_taking_sequence mm_lt fLots mm_mixed mm_is_perfect_in mm_pick mm_are_all_neighbours mm_an mm_neighbours_in mm_near fFrm
noncomputable abbrev LC1 := law_c1 mm_core_of mm_pl mm_of mm_taking_sequence mm_lt fLots mm_mixed mm_is_perfect_in mm_pick mm_are_all_neighbours mm_an mm_neighbours_in mm_near fFrm
noncomputable abbrev LC2 := law_c2 mm_core_of mm_pl mm_of mm_taking_sequence mm_lt fLots mm_mixed mm_is_perfect_in mm_pick mm_are_all_neighbours mm_an mm_neighbours_in mm_near fFrm
noncomputable abbrev LC3 := law_c3 mm_core_of mm_pl mm_of mm_taking_sequence mm_lt fLots mm_mixed mm_is_perfect_in mm_pick mm_are_all_neighbours mm_an mm_neighbours_in mm_near fFrm
noncomputable abbrev LC4 := law_c4 mm_core_of mm_pl mm_of mm_taking_sequence mm_lt fLots mm_mixed mm_is_perfect_in mm_pick mm_are_all_neighbours mm_an mm_neighbours_in mm_near fFrm
noncomputable abbrev LC5 := law_c5 mm_core_of mm_pl mm_of mm_taking_sequence mm_lt fLots mm_mixed mm_is_perfect_in mm_pick mm_are_all_neighbours mm_an mm_neighbours_in mm_near fFrm
noncomputable abbrev LC6 := law_c6 mm_core_of mm_pl mm_of mm_taking_sequence mm_lt fLots mm_mixed mm_is_perfect_in mm_pick mm_are_all_neighbours mm_an mm_neighbours_in mm_near fFrm
noncomputable abbrev LF1 := law_f1 mm_core_of mm_pl mm_of mm_taking_sequence mm_lt fLots mm_mixed mm_is_perfect_in mm_pick mm_are_all_neighbours mm_an mm_neighbours_in mm_near fFrm
noncomputable abbrev LF2 := law_f2 mm_core_of mm_pl mm_of mm_taking_sequence mm_lt fLots mm_mixed mm_is_perfect_in mm_pick mm_are_all_neighbours mm_an mm_neighbours_in mm_near fFrm
/-- a plain slot -/
def Pl (s : Sl) : Prop := roSl s = s
theorem pl_un : Pl .un := rfl
theorem pl_im (d : PyData) : Pl (.im d) := rfl
def lK (F : Fr) (s2 s7 s8 s9 s10 s11 s12 s13 s14 : Sl) : Rho := [.un, .so, s2, .im (frE F), .im (.int F.n), .im (.str (frE F).shown), .im (nearD (nearR F)), s7, s8, s9, s10, s11, s12, s13, s14, .un]
theorem wtI {l : List Int} (h : l.length ≤ 64) : EncW.wt (α := Tp Int) l ≤ 1000000 := by
  show wtL l ≤ _
  refine Nat.le_trans (wtL_le (k := 41) fun a _ => Nat.le_refl _) ?_
  have := Nat.mul_le_mul_right 42 h
  omega
theorem tmI {n : Nat} {l : List Int} (h : ∀ x ∈ l, x ∈ rng n) (hn : n ≤ 64) : EncW.tm (α := Tp Int) l := fun x hx => by
  have := mem_rng.mp (h x hx)
  show x.natAbs < 10 ^ 12
  omega
theorem rep_tu {n : Nat} {l : List Int} (h : ∀ x ∈ l, x ∈ rng n) (hn : n ≤ 64) (hl : l.length ≤ 64) : gRepr [tu l] = some (.im (.str (tu l).shown)) := gRepr_of (rep_en (α := Tp Int) l (tmI h hn) (wtI hl))
theorem rep_b (b : Bool) : gRepr [.bool b] = some (.im (.str (PyData.bool b).shown)) := gRepr_of (rep_bool b)
theorem rep_fr {F : Fr} (h : F.ok) : gRepr [frE F] = some (.im (.str (frE F).shown)) := by
  have r := rep_en (α := Int × Tp (Int × Int)) ((F.n : Int), F.roads) ⟨by
    have := h.1
    show (F.n : Int).natAbs < 10 ^ 12
    omega, fun r hr => by
    have h1 := h.1
    have h2 := mem_rng.mp (h.2.2 r hr).1
    have h3 := mem_rng.mp (h.2.2 r hr).2
    constructor
    · show r.1.natAbs < 10 ^ 12
      omega
    · show r.2.natAbs < 10 ^ 12
      omega⟩ (by
    show 41 + wtL F.roads + 2 ≤ 1000000
    have := wtL_le (l := F.roads) (k := 84) fun a _ => Nat.le_refl _
    have h2 := Nat.mul_le_mul_right 85 h.2.1
    omega)
  exact gRepr_of r
theorem rep_two {n : Nat} {l m : List Int} (hn : n ≤ 64) (h : ∀ x ∈ l, x ∈ rng n) (hl : l.length ≤ 64) (h' : ∀ x ∈ m, x ∈ rng n) (hm : m.length ≤ 64) : gRepr [.list [tu l, tu m]] = some (.im (.str (PyData.list [tu l, tu m]).shown)) := by
  refine gRepr_of (rep_en (α := Ls (Tp Int)) [l, m] (fun a ha => ?_) ?_)
  · rcases List.mem_cons.mp ha with rfl | ha
    · exact tmI h hn
    · rcases List.mem_cons.mp ha with rfl | ha
      · exact tmI h' hn
      · cases ha
  · show wtL (α := Tp Int) [l, m] ≤ _
    have e : wtL (α := Tp Int) [l, m] = (wtL l + 1) + ((wtL m + 1) + 0) := rfl
    rw [e]
    have h1 := wtL_le (l := l) (k := 41) fun a _ => Nat.le_refl _
    have h2 := wtL_le (l := m) (k := 41) fun a _ => Nat.le_refl _
    have h3 := Nat.mul_le_mul_right 42 hl
    have h4 := Nat.mul_le_mul_right 42 hm
    omega
section
variable {F : Fr} {S : Src} {s2 s7 s8 s9 s10 s11 s12 s13 s14 : Sl}
theorem c6_ev (h : F.ok) {lot : List Int} {x : Int} (hl : Lot F.n lot) (hz : lot.length ≤ 64) (hx : x ∈ rng F.n) (h2 : Pl s2) (h9 : Pl s9) (h10 : Pl s10) (h11 : Pl s11) (h12 : Pl s12) (h13 : Pl s13) (h14 : Pl s14) :
    LC6 (lK F s2 (.im (tu lot)) (.im (.int x)) s9 s10 s11 s12 s13 s14) S = some (.ow (li (nbIn F lot x)), lK F s2 (.im (tu lot)) (.im (.int x)) s9 s10 s11 s12 s13 s14, S) := by
  rw [nbIn_row h hx]
  unfold LC6 law_c6
  refine lc_evT (l := lot) (S1 := S) (ρ1 := lK F s2 (.im (tu lot)) (.im (.int x)) s9 s10 s11 s12 s13 s14) _ (by simp [lK]) (by rw [sizeLine_eq]; omega) rfl (by simp [lK]) fun y hy => ?_
  have e := row_ix (R := nearR F) (x := x) (by rw [nearR_len]; exact hx)
  unfold Pl at *
  simp [lK, en_int, e, row_in, h2, h9, h10, h11, h12, h13, h14]
/-- which of a lot stay: the one, others by the source -/
theorem c5_go {ρi : Rho} {x : Int} (h1 : ρi[1]? = some .so) (h8 : ρi[8]? = some (.im (.int x))) (hlen : ρi.length = 16) : ∀ (l : List Int) (S : Src), SOk S →
    ∃ m S', lcGo (gNm 15) (sOr (ofE (eBin gEq (eVar 15) (eVar 8))) (ofE (eBin gEq (eCall 2 mm_pick (aCons (eVar 1) (aCons (eC (.int 2)) (aNil)))) (eC (.int 0))))) (eVar 15) ρi (l.map en) S = some (m.map en, S') ∧ List.Sublist m l ∧ SOk S'
  | [], S, hS => ⟨[], S, rfl, List.Sublist.refl _, hS⟩
  | a :: l, S, hS => by
    have pk := pick_at (S := S) (many := 2) (by omega) hS
    have pk' : mm_pick [.so, .im (.int 2)] S = some (.int (pickR S 2).1, (pickR S 2).2) := pk
    have ok := pick_ok (S := S) (many := 2) (by omega) hS
    have ev : ∃ b S1, sOr (ofE (eBin gEq (eVar 15) (eVar 8))) (ofE (eBin gEq (eCall 2 mm_pick (aCons (eVar 1) (aCons (eC (.int 2)) (aNil)))) (eC (.int 0)))) (ρi.set 15 (.im (en a))) S = some (b, ρi.set 15 (.im (en a)), S1) ∧ SOk S1 := by
      have g1 : (ρi.set 15 (.im (en a)))[1]? = some .so := by rw [List.getElem?_set_ne (by omega)]; exact h1
      have g8 : (ρi.set 15 (.im (en a)))[8]? = some (.im (.int x)) := by rw [List.getElem?_set_ne (by omega)]; exact h8
      have g15 : (ρi.set 15 (.im (en a)))[15]? = some (.im (.int a)) := by rw [List.getElem?_set_self (by omega)]; rfl
      generalize ρi.set 15 (.im (en a)) = ρ2 at g1 g8 g15
      by_cases c : a = x
      · exact ⟨true, S, by simp [g8, g15, c], hS⟩
      · exact ⟨decide (((pickR S 2).1 : Int) = 0), (pickR S 2).2, by simp [g1, g8, g15, c, pk'], ok⟩
    obtain ⟨b, S1, e, hS1⟩ := ev
    obtain ⟨m, S', e2, e3, e4⟩ := c5_go h1 h8 hlen l S1 hS1
    cases b with
    | true =>
      refine ⟨a :: m, S', ?_, e3.cons₂ a, e4⟩
      rw [List.map_cons, List.map_cons]
      unfold lcGo
      rw [gNm_ap, bindS, e, bindS]
      simp [hlen, e2]
    | false =>
      refine ⟨m, S', ?_, e3.cons a, e4⟩
      rw [List.map_cons]
      unfold lcGo
      rw [gNm_ap, bindS, e, bindS]
      simpa using e2
theorem c5_ev {lot : List Int} {x : Int} (hz : lot.length ≤ 64) (hS : SOk S) : ∃ m S', LC5 (lK F s2 (.im (tu lot)) (.im (.int x)) s9 s10 s11 s12 s13 s14) S = some (.ow (li m), lK F s2 (.im (tu lot)) (.im (.int x)) s9 s10 s11 s12 s13 s14, S') ∧ List.Sublist m lot ∧ SOk S' := by
  obtain ⟨m, S', e1, e2, e3⟩ := c5_go (ρi := inn (lK F s2 (.im (tu lot)) (.im (.int x)) s9 s10 s11 s12 s13 s14) [15]) (x := x) rfl rfl rfl lot S hS
  refine ⟨m, S', ?_, e2, e3⟩
  have it : itE (eVar 7) (lK F s2 (.im (tu lot)) (.im (.int x)) s9 s10 s11 s12 s13 s14) S = some (lot.map en, lK F s2 (.im (tu lot)) (.im (.int x)) s9 s10 s11 s12 s13 s14, S) := by simp [lK]
  unfold LC5 law_c5 eLc
  rw [it, bindS]
  simp only []
  rw [if_pos (by rw [List.length_map, sizeLine_eq]; omega), e1]
  rfl
/-- the frame drawn; its number, its text, who is near -/
theorem lB_a (h : F.ok) (hn : 1 ≤ F.n) (hS : SOk S) : ∃ (x : Int) (S' : Src), sSet 8 (eCall 2 mm_pick (aCons (eVar 1) (aCons (eVar 4) (aNil)))) (lK F s2 s7 s8 s9 s10 s11 s12 s13 s14) S = some (.nx, lK F s2 s7 (.im (.int x)) s9 s10 s11 s12 s13 s14, S') ∧ x ∈ rng F.n ∧ SOk S' := by
  have hn2 := h.1
  have a1 := pick_at (S := S) (many := F.n) (by omega) hS
  have a2 := pick_lt (S := S) (many := F.n) (by omega) hS
  have a3 := pick_ok (S := S) (many := F.n) (by omega) hS
  generalize pickR S F.n = z at a1 a2 a3
  obtain ⟨x1, S1⟩ := z
  simp only at a1 a2 a3
  exact ⟨(x1 : Int), S1, by simp [lK, a1], mem_rng.mpr ⟨by omega, by omega⟩, a3⟩
theorem lB_b (h : F.ok) {lot : List Int} {x : Int} (hl : Lot F.n lot) (hz : lot.length ≤ 64) (hx : x ∈ rng F.n) (h2 : Pl s2) (h9 : Pl s9) (h10 : Pl s10) (h11 : Pl s11) (h12 : Pl s12) (h13 : Pl s13) (h14 : Pl s14) :
    sSet 9 (eB (g1 gTuple) (aCons (LC6) (aNil))) (lK F s2 (.im (tu lot)) (.im (.int x)) s9 s10 s11 s12 s13 s14) S = some (.nx, lK F s2 (.im (tu lot)) (.im (.int x)) (.im (tu (nbIn F lot x))) s10 s11 s12 s13 s14, S) := by
  have e := c6_ev (S := S) h hl hz hx h2 h9 h10 h11 h12 h13 h14
  rw [sSet_ap, eB_ap, aCons_ap, e]
  simp [lK]
theorem lB_c (h : F.ok) {lot : List Int} {x : Int} (hl : Lot F.n lot) (hz : lot.length ≤ 64) :
    sIf (ofE (eBin gNe (eB gRepr (aCons (eCall 3 mm_neighbours_in (aCons (eVar 3) (aCons (eVar 7) (aCons (eVar 8) (aNil))))) (aNil))) (eB gRepr (aCons (eVar 9) (aNil))))) (sRet (eC (.bool false))) (sNil) (lK F s2 (.im (tu lot)) (.im (.int x)) (.im (tu (nbIn F lot x))) s10 s11 s12 s13 s14) S = some (.nx, lK F s2 (.im (tu lot)) (.im (.int x)) (.im (tu (nbIn F lot x))) s10 s11 s12 s13 s14, S) := by
  have e := nb_at (F := F) (lot := lot) (x := x) h (by omega) S
  have hm := hl.filter fun y => decide (y ∈ fndR F.roads x)
  have r := rep_tu (l := nbIn F lot x) hm.mem h.1 (Nat.le_trans (nbIn_len F lot x) hz)
  simp [lK, e, r]
theorem lB_d (h : F.ok) {lot : List Int} (hl : Lot F.n lot) (hz : lot.length ≤ 64) :
    sIf (ofE (eBin gNe (eB gRepr (aCons (eCall 2 mm_are_all_neighbours (aCons (eVar 3) (aCons (eVar 7) (aNil)))) (aNil))) (eB gRepr (aCons (eCall 2 mm_an (aCons (eVar 6) (aCons (eVar 7) (aNil)))) (aNil))))) (sRet (eC (.bool false))) (sNil) (lK F s2 (.im (tu lot)) s8 s9 s10 s11 s12 s13 s14) S = some (.nx, lK F s2 (.im (tu lot)) s8 s9 s10 s11 s12 s13 s14, S) := by
  have e := all_at (F := F) (lot := lot) h (by omega) S
  have e2 : mm_an [.im (nearD (nearR F)), .im (tu lot)] S = some (.bool (allNear (nearR F) lot), S) := an_at (k := false) (by omega) (by rw [nearR_len]; exact hl.mem) S
  rw [all_eq h hl] at e
  simp [lK, e, e2, rep_b]
theorem lB_e (h : F.ok) {lot : List Int} (hl : Lot F.n lot) (hz : lot.length ≤ 64) (h0 : lot ≠ []) (hS : SOk S) : ∃ (x : Int) (S' : Src), sSet 8 (eCall 2 mm_of (aCons (eVar 1) (aCons (eVar 7) (aNil)))) (lK F s2 (.im (tu lot)) s8 s9 s10 s11 s12 s13 s14) S = some (.nx, lK F s2 (.im (tu lot)) (.im (.int x)) s9 s10 s11 s12 s13 s14, S') ∧ x ∈ lot ∧ SOk S' := by
  have hp : 0 < (lot.map en).length := by rw [List.length_map]; exact List.length_pos_iff.mpr h0
  have hq : (lot.map en).length ≤ 1000 := by rw [List.length_map]; omega
  have a1 : mm_of [.so, .im (tu lot)] S = some (ofR S (lot.map en)) := of_at (k := false) hp hq hS
  obtain ⟨m1, m2⟩ := ofR_mem hp hq hS
  generalize ofR S (lot.map en) = z at a1 m1 m2
  obtain ⟨d, S1⟩ := z
  simp only at m1 m2
  obtain ⟨x, hx, rfl⟩ := List.mem_map.mp m1
  exact ⟨x, S1, by simp [lK, a1, en_int], hx, m2⟩
theorem lB_f (h : F.ok) {lot : List Int} {x : Int} (hz : lot.length ≤ 64) :
    sSet 10 (eCall 3 mm_is_perfect_in (aCons (eVar 3) (aCons (eVar 7) (aCons (eVar 8) (aNil))))) (lK F s2 (.im (tu lot)) (.im (.int x)) s9 s10 s11 s12 s13 s14) S = some (.nx, lK F s2 (.im (tu lot)) (.im (.int x)) s9 (.im (.bool (perf F lot x))) s11 s12 s13 s14, S) := by
  have e := perf_at (F := F) (lot := lot) (x := x) h (by omega) S
  simp [lK, e]
theorem lB_g (h : F.ok) {lot : List Int} {x : Int} (hl : Lot F.n lot) (hz : lot.length ≤ 64) (hx : x ∈ rng F.n) :
    sIf (ofE (eBin gNe (eB gRepr (aCons (eVar 10) (aNil))) (eB gRepr (aCons (eCall 3 mm_pl (aCons (eVar 6) (aCons (eVar 7) (aCons (eVar 8) (aNil))))) (aNil))))) (sRet (eC (.bool false))) (sNil) (lK F s2 (.im (tu lot)) (.im (.int x)) s9 (.im (.bool (perf F lot x))) s11 s12 s13 s14) S = some (.nx, lK F s2 (.im (tu lot)) (.im (.int x)) s9 (.im (.bool (perf F lot x))) s11 s12 s13 s14, S) := by
  have e2 : mm_pl [.im (nearD (nearR F)), .im (tu lot), .im (.int x)] S = some (.bool (perfL (nearR F) lot x), S) := pl_at (k := false) (by omega) (by rw [nearR_len]; exact hl.mem) (by rw [nearR_len]; exact hx) S
  rw [perf_eq h hl hx]
  simp [lK, e2, rep_b]
theorem lB_h {lot : List Int} {x : Int} (hz : lot.length ≤ 64) (hS : SOk S) : ∃ (m : List Int) (S' : Src), sSet 11 (eB (g1 gTuple) (aCons (LC5) (aNil))) (lK F s2 (.im (tu lot)) (.im (.int x)) s9 s10 s11 s12 s13 s14) S = some (.nx, lK F s2 (.im (tu lot)) (.im (.int x)) s9 s10 (.im (tu m)) s12 s13 s14, S') ∧ List.Sublist m lot ∧ SOk S' := by
  obtain ⟨m, S', e, h1, h2⟩ := c5_ev (F := F) (S := S) (s2 := s2) (s9 := s9) (s10 := s10) (s11 := s11) (s12 := s12) (s13 := s13) (s14 := s14) (x := x) hz hS
  refine ⟨m, S', ?_, h1, h2⟩
  rw [sSet_ap, eB_ap, aCons_ap, e]
  simp [lK]
theorem lB_i (h : F.ok) {lot m : List Int} {x : Int} (hl : Lot F.n lot) (hz : lot.length ≤ 64) (hx : x ∈ rng F.n) (hm : List.Sublist m lot) :
    sIf (sAnd (ofE (eVar 10)) (sNot (ofE (eCall 3 mm_is_perfect_in (aCons (eVar 3) (aCons (eVar 11) (aCons (eVar 8) (aNil)))))))) (sRet (eC (.bool false))) (sNil) (lK F s2 s7 (.im (.int x)) s9 (.im (.bool (perf F lot x))) (.im (tu m)) s12 s13 s14) S = some (.nx, lK F s2 s7 (.im (.int x)) s9 (.im (.bool (perf F lot x))) (.im (tu m)) s12 s13 s14, S) := by
  have e := perf_at (F := F) (lot := m) (x := x) h (Nat.le_trans hm.length_le (by omega)) S
  by_cases c : perf F lot x = true
  · have c2 : perf F m x = true := by
      rw [perf_eq h (hl.sub hm) hx]
      rw [perf_eq h hl hx] at c
      exact perfL_sub hm c
    simp [lK, e, c, c2]
  · rw [Bool.not_eq_true] at c
    simp [lK, c]
noncomputable def lB : SS := (sSeq (sSet 8 (eCall 2 mm_pick (aCons (eVar 1) (aCons (eVar 4) (aNil))))) (sSeq (sSet 9 (eB (g1 gTuple) (aCons (LC6) (aNil)))) (sSeq (sIf (ofE (eBin gNe (eB gRepr (aCons (eCall 3 mm_neighbours_in (aCons (eVar 3) (aCons (eVar 7) (aCons (eVar 8) (aNil))))) (aNil))) (eB gRepr (aCons (eVar 9) (aNil))))) (sRet (eC (.bool false))) (sNil)) (sSeq (sIf (ofE (eBin gNe (eB gRepr (aCons (eCall 2 mm_are_all_neighbours (aCons (eVar 3) (aCons (eVar 7) (aNil)))) (aNil))) (eB gRepr (aCons (eCall 2 mm_an (aCons (eVar 6) (aCons (eVar 7) (aNil)))) (aNil))))) (sRet (eC (.bool false))) (sNil)) (sIf (ofE (eBin gNe (eVar 7) (eTup (aNil)))) (sSeq (sSet 8 (eCall 2 mm_of (aCons (eVar 1) (aCons (eVar 7) (aNil))))) (sSeq (sSet 10 (eCall 3 mm_is_perfect_in (aCons (eVar 3) (aCons (eVar 7) (aCons (eVar 8) (aNil)))))) (sSeq (sIf (ofE (eBin gNe (eB gRepr (aCons (eVar 10) (aNil))) (eB gRepr (aCons (eCall 3 mm_pl (aCons (eVar 6) (aCons (eVar 7) (aCons (eVar 8) (aNil))))) (aNil))))) (sRet (eC (.bool false))) (sNil)) (sSeq (sSet 11 (eB (g1 gTuple) (aCons (LC5) (aNil)))) (sIf (sAnd (ofE (eVar 10)) (sNot (ofE (eCall 3 mm_is_perfect_in (aCons (eVar 3) (aCons (eVar 11) (aCons (eVar 8) (aNil)))))))) (sRet (eC (.bool false))) (sNil)))))) (sNil))))))
/-- one lot -/
theorem lB_ev (h : F.ok) (hn : 1 ≤ F.n) {lot : List Int} (hl : Lot F.n lot) (hz : lot.length ≤ 64) (hS : SOk S) (h2 : Pl s2) (h9 : Pl s9) (h10 : Pl s10) (h11 : Pl s11) (h12 : Pl s12) (h13 : Pl s13) (h14 : Pl s14) :
    ∃ (s8' s9' s10' s11' : Sl) (S' : Src), lB (lK F s2 (.im (tu lot)) s8 s9 s10 s11 s12 s13 s14) S = some (.nx, lK F s2 (.im (tu lot)) s8' s9' s10' s11' s12 s13 s14, S') ∧ Pl s8' ∧ Pl s9' ∧ Pl s10' ∧ Pl s11' ∧ SOk S' := by
  obtain ⟨x, S1, e1, hx, hS1⟩ := lB_a (s2 := s2) (s7 := .im (tu lot)) (s8 := s8) (s9 := s9) (s10 := s10) (s11 := s11) (s12 := s12) (s13 := s13) (s14 := s14) h hn hS
  have e2 := lB_b (S := S1) h hl hz hx h2 h9 h10 h11 h12 h13 h14
  have e3 := lB_c (S := S1) (s2 := s2) (s10 := s10) (s11 := s11) (s12 := s12) (s13 := s13) (s14 := s14) (x := x) h hl hz
  have e4 := lB_d (S := S1) (s2 := s2) (s8 := .im (.int x)) (s9 := .im (tu (nbIn F lot x))) (s10 := s10) (s11 := s11) (s12 := s12) (s13 := s13) (s14 := s14) h hl hz
  unfold lB
  rw [seqN e1, seqN e2, seqN e3, seqN e4]
  by_cases c : lot = []
  · refine ⟨.im (.int x), .im (tu (nbIn F lot x)), s10, s11, S1, ?_, rfl, rfl, h10, h11, hS1⟩
    have t : ofE (eBin gNe (eVar 7) (eTup (aNil))) (lK F s2 (.im (tu lot)) (.im (.int x)) (.im (tu (nbIn F lot x))) s10 s11 s12 s13 s14) S1 = some (false, lK F s2 (.im (tu lot)) (.im (.int x)) (.im (tu (nbIn F lot x))) s10 s11 s12 s13 s14, S1) := by
      simp [lK, sizeLine_eq, gNe_tuN, c]
    rw [sIf_ap, t]
    rfl
  · have t : ofE (eBin gNe (eVar 7) (eTup (aNil))) (lK F s2 (.im (tu lot)) (.im (.int x)) (.im (tu (nbIn F lot x))) s10 s11 s12 s13 s14) S1 = some (true, lK F s2 (.im (tu lot)) (.im (.int x)) (.im (tu (nbIn F lot x))) s10 s11 s12 s13 s14, S1) := by
      simp [lK, sizeLine_eq, gNe_tuN, c]
    obtain ⟨y, S2, f1, hy, hS2⟩ := lB_e (s2 := s2) (s8 := .im (.int x)) (s9 := .im (tu (nbIn F lot x))) (s10 := s10) (s11 := s11) (s12 := s12) (s13 := s13) (s14 := s14) h hl hz c hS1
    have hy' := hl.mem y hy
    have f2 := lB_f (S := S2) (s2 := s2) (s9 := .im (tu (nbIn F lot x))) (s10 := s10) (s11 := s11) (s12 := s12) (s13 := s13) (s14 := s14) (x := y) h hz
    have f3 := lB_g (S := S2) (s2 := s2) (s9 := .im (tu (nbIn F lot x))) (s11 := s11) (s12 := s12) (s13 := s13) (s14 := s14) h hl hz hy'
    obtain ⟨m, S3, f4, hm, hS3⟩ := lB_h (F := F) (S := S2) (s2 := s2) (s9 := .im (tu (nbIn F lot x))) (s10 := .im (.bool (perf F lot y))) (s11 := s11) (s12 := s12) (s13 := s13) (s14 := s14) (x := y) hz hS2
    have f5 := lB_i (S := S3) (s2 := s2) (s7 := .im (tu lot)) (s9 := .im (tu (nbIn F lot x))) (s12 := s12) (s13 := s13) (s14 := s14) h hl hz hy' hm
    refine ⟨.im (.int y), .im (tu (nbIn F lot x)), .im (.bool (perf F lot y)), .im (tu m), S3, ?_, rfl, rfl, rfl, rfl, hS3⟩
    rw [sIf_ap, t, bindS]
    simp only [if_true]
    rw [seqN f1, seqN f2, seqN f3, seqN f4]
    exact f5
end
end Dn

set_option Elab.async false
set_option linter.all false
set_option maxRecDepth 100000
set_option maxHeartbeats 4000000
/-! L57c: one frame; the law. -/
namespace Dn
open PySem PySem.Spec PyProof.Rows L2
section
variable {F : Fr} {S : Src} {s2 s7 s8 s9 s10 s11 s12 s13 s14 : Sl}
theorem red_lot {R : List (List Int)} {n : Nat} {l : List Int} (h : Red R n l) : Lot n l := (lot_rng n).sub h.sub
theorem lot_len {n : Nat} {l : List Int} {R : List (List Int)} (h : Red R n l) : l.length ≤ n := by have := h.sub.length_le; rw [rng_len] at this; exact this
theorem c1_ev (h : F.ok) {left : List Int} (hl : Red (nearR F) F.n left) (p2 : Pl s2) (p7 : Pl s7) (p8 : Pl s8) (p9 : Pl s9) (p10 : Pl s10) (p11 : Pl s11) (p12 : Pl s12) (p14 : Pl s14) :
    LC1 (lK F s2 s7 s8 s9 s10 s11 s12 (.im (li left)) s14) S = some (.ow (li (someL (nearR F) left)), lK F s2 s7 s8 s9 s10 s11 s12 (.im (li left)) s14, S) := by
  have hz := lot_len hl
  have hn := h.1
  unfold LC1 law_c1
  refine lc_evT (l := left) (S1 := S) (ρ1 := lK F s2 s7 s8 s9 s10 s11 s12 (.im (li left)) s14) _ (by simp [lK]) (by rw [sizeLine_eq]; omega) rfl (by simp [lK]) fun y hy => ?_
  have e : mm_pl [.im (nearD (nearR F)), .im (li left), .im (.int y)] S = some (.bool (perfL (nearR F) left y), S) := pl_at (k := true) (by omega) (by rw [nearR_len]; exact (red_lot hl).mem) (by rw [nearR_len]; exact (red_lot hl).mem y hy) S
  unfold Pl at *
  simp [lK, en_int, e, p2, p7, p8, p9, p10, p11, p12, p14]
theorem c3_ev (h : F.ok) {left : List Int} (hl : Red (nearR F) F.n left) (p2 : Pl s2) (p7 : Pl s7) (p8 : Pl s8) (p9 : Pl s9) (p10 : Pl s10) (p11 : Pl s11) (p12 : Pl s12) (p14 : Pl s14) :
    LC3 (lK F s2 s7 s8 s9 s10 s11 s12 (.im (li left)) s14) S = some (.ow (li (someL (nearR F) left)), lK F s2 s7 s8 s9 s10 s11 s12 (.im (li left)) s14, S) := by
  have hz := lot_len hl
  have hn := h.1
  unfold LC3 law_c3
  refine lc_evT (l := left) (S1 := S) (ρ1 := lK F s2 s7 s8 s9 s10 s11 s12 (.im (li left)) s14) _ (by simp [lK]) (by rw [sizeLine_eq]; omega) rfl (by simp [lK]) fun y hy => ?_
  have e : mm_pl [.im (nearD (nearR F)), .im (li left), .im (.int y)] S = some (.bool (perfL (nearR F) left y), S) := pl_at (k := true) (by omega) (by rw [nearR_len]; exact (red_lot hl).mem) (by rw [nearR_len]; exact (red_lot hl).mem y hy) S
  unfold Pl at *
  simp [lK, en_int, e, p2, p7, p8, p9, p10, p11, p12, p14]
theorem c2_ev {left : List Int} {x : Int} (hz : left.length ≤ 64) (p2 : Pl s2) (p7 : Pl s7) (p9 : Pl s9) (p10 : Pl s10) (p11 : Pl s11) (p12 : Pl s12) (p14 : Pl s14) :
    LC2 (lK F s2 s7 (.im (.int x)) s9 s10 s11 s12 (.im (li left)) s14) S = some (.ow (li (left.filter fun y => !decide (y = x))), lK F s2 s7 (.im (.int x)) s9 s10 s11 s12 (.im (li left)) s14, S) := by
  unfold LC2 law_c2
  refine lc_evT (l := left) (S1 := S) (ρ1 := lK F s2 s7 (.im (.int x)) s9 s10 s11 s12 (.im (li left)) s14) _ (by simp [lK]) (by rw [sizeLine_eq]; omega) rfl (by simp [lK]) fun y hy => ?_
  unfold Pl at *
  simp [lK, en_int, p2, p7, p9, p10, p11, p12, p14]
theorem c4_ev {told : List Int} (hn : F.n ≤ 64) (p2 : Pl s2) (p7 : Pl s7) (p9 : Pl s9) (p11 : Pl s11) (p12 : Pl s12) (p13 : Pl s13) (p14 : Pl s14) :
    LC4 (lK F s2 s7 s8 s9 (.im (tu told)) s11 s12 s13 s14) S = some (.ow (li (restF F.n told)), lK F s2 s7 s8 s9 (.im (tu told)) s11 s12 s13 s14, S) := by
  unfold LC4 law_c4
  refine lc_evT (l := rng F.n) (S1 := S) (ρ1 := lK F s2 s7 s8 s9 (.im (tu told)) s11 s12 s13 s14) (fun x => !decide (x ∈ told)) (by simp [lK, rgOf1 (show F.n ≤ 16777216 by omega)]) (by rw [rng_len, sizeLine_eq]; omega) rfl (by simp [lK]) fun y hy => ?_
  unfold Pl at *
  simp [lK, gNi_tu, p2, p7, p9, p11, p12, p13, p14]
noncomputable def lW : SS := (sSeq (sSet 8 (eCall 2 mm_of (aCons (eVar 1) (aCons (eVar 14) (aNil))))) (sSeq (sSet 13 (eFz (LC2))) (sSet 14 (eFz (LC1)))))
/-- one taken -/
theorem lW_ev (h : F.ok) {left : List Int} (hl : Red (nearR F) F.n left) (h0 : someL (nearR F) left ≠ []) (hS : SOk S) (p2 : Pl s2) (p7 : Pl s7) (p9 : Pl s9) (p10 : Pl s10) (p11 : Pl s11) (p12 : Pl s12) :
    ∃ (x : Int) (S' : Src), lW (lK F s2 s7 s8 s9 s10 s11 s12 (.im (li left)) (.im (li (someL (nearR F) left)))) S = some (.nx, lK F s2 s7 (.im (.int x)) s9 s10 s11 s12 (.im (li (left.filter fun y => !decide (y = x)))) (.im (li (someL (nearR F) (left.filter fun y => !decide (y = x))))), S') ∧ x ∈ someL (nearR F) left ∧ SOk S' := by
  have hz := lot_len hl
  have hn := h.1
  have sz : (someL (nearR F) left).length ≤ left.length := List.length_filter_le _ _
  have hp : 0 < ((someL (nearR F) left).map en).length := by rw [List.length_map]; exact List.length_pos_iff.mpr h0
  have hq : ((someL (nearR F) left).map en).length ≤ 1000 := by rw [List.length_map]; omega
  have a1 : mm_of [.so, .im (li (someL (nearR F) left))] S = some (ofR S ((someL (nearR F) left).map en)) := of_at (k := true) hp hq hS
  obtain ⟨m1, m2⟩ := ofR_mem hp hq hS
  generalize ofR S ((someL (nearR F) left).map en) = z at a1 m1 m2
  obtain ⟨d, S1⟩ := z
  simp only at m1 m2
  obtain ⟨x, hx, rfl⟩ := List.mem_map.mp m1
  have e1 : sSet 8 (eCall 2 mm_of (aCons (eVar 1) (aCons (eVar 14) (aNil)))) (lK F s2 s7 s8 s9 s10 s11 s12 (.im (li left)) (.im (li (someL (nearR F) left)))) S = some (.nx, lK F s2 s7 (.im (.int x)) s9 s10 s11 s12 (.im (li left)) (.im (li (someL (nearR F) left))), S1) := by
    simp [lK, a1, en_int]
  have hx' := List.mem_filter.mp hx
  have c2 := c2_ev (F := F) (S := S1) (x := x) (left := left) (by omega) p2 p7 p9 p10 p11 p12 (pl_im (li (someL (nearR F) left)))
  have e2 : sSet 13 (eFz (LC2)) (lK F s2 s7 (.im (.int x)) s9 s10 s11 s12 (.im (li left)) (.im (li (someL (nearR F) left)))) S1 = some (.nx, lK F s2 s7 (.im (.int x)) s9 s10 s11 s12 (.im (li (left.filter fun y => !decide (y = x)))) (.im (li (someL (nearR F) left))), S1) := by
    rw [sSet_ap, eFz_ap, c2]
    simp [lK]
  have c1 := c1_ev (S := S1) h (Red.take hl hx'.1 hx'.2) p2 p7 (pl_im (.int x)) p9 p10 p11 p12 (pl_im (li (someL (nearR F) left)))
  have e3 : sSet 14 (eFz (LC1)) (lK F s2 s7 (.im (.int x)) s9 s10 s11 s12 (.im (li (left.filter fun y => !decide (y = x)))) (.im (li (someL (nearR F) left)))) S1 = some (.nx, lK F s2 s7 (.im (.int x)) s9 s10 s11 s12 (.im (li (left.filter fun y => !decide (y = x)))) (.im (li (someL (nearR F) (left.filter fun y => !decide (y = x))))), S1) := by
    rw [sSet_ap, eFz_ap, c1]
    simp [lK]
  refine ⟨x, S1, ?_, hx, m2⟩
  unfold lW
  rw [seqN e1, seqN e2]
  exact e3
theorem lWh_ev (h : F.ok) (hS : SOk S) (p2 : Pl s2) (p7 : Pl s7) (p9 : Pl s9) (p10 : Pl s10) (p11 : Pl s11) (p12 : Pl s12) :
    ∃ (s8' : Sl) (left : List Int) (S' : Src), LW1 (lK F s2 s7 s8 s9 s10 s11 s12 (.im (li (rng F.n))) (.im (li (someL (nearR F) (rng F.n))))) S = some (.nx, lK F s2 s7 s8' s9 s10 s11 s12 (.im (li left)) (.im (li ([] : List Int))), S') ∧ Red (nearR F) F.n left ∧ someL (nearR F) left = [] ∧ (Pl s8 → Pl s8') ∧ SOk S' := by
  obtain ⟨ρ', S', e, s8', left, rfl, q1, q2, q3, q4⟩ := whE (t := ofE (eBin gNe (eVar 14) (eLst (aNil)))) (b := lW)
    (fun n ρ S => ∃ s8' left, ρ = lK F s2 s7 s8' s9 s10 s11 s12 (.im (li left)) (.im (li (someL (nearR F) left))) ∧ Red (nearR F) F.n left ∧ left.length ≤ n ∧ (Pl s8 → Pl s8') ∧ SOk S)
    (fun ρ S => ∃ s8' left, ρ = lK F s2 s7 s8' s9 s10 s11 s12 (.im (li left)) (.im (li (someL (nearR F) left))) ∧ Red (nearR F) F.n left ∧ someL (nearR F) left = [] ∧ (Pl s8 → Pl s8') ∧ SOk S)
    (fun n ρ S ⟨s8', left, g0, g1, g2, g3, g4⟩ => by
      subst g0
      have t : ofE (eBin gNe (eVar 14) (eLst (aNil))) (lK F s2 s7 s8' s9 s10 s11 s12 (.im (li left)) (.im (li (someL (nearR F) left)))) S = some (!decide (someL (nearR F) left = []), lK F s2 s7 s8' s9 s10 s11 s12 (.im (li left)) (.im (li (someL (nearR F) left))), S) := by
        simp [lK, sizeLine_eq, gNe_liN]
      by_cases c : someL (nearR F) left = []
      · exact .inl ⟨_, S, by rw [t, c]; rfl, s8', left, rfl, g1, c, g3, g4⟩
      · obtain ⟨x, S1, e, hx, hS1⟩ := lW_ev (s8 := s8') h g1 c g4 p2 p7 p9 p10 p11 p12
        have hx' := List.mem_filter.mp hx
        have lt := filter_lt (p := fun y => !decide (y = x)) hx'.1 (by simp)
        refine .inr ⟨n - 1, _, S, _, S1, by omega, by rw [t, decide_eq_false c]; rfl, .inl e, _, _, rfl, Red.take g1 hx'.1 hx'.2, by omega, fun _ => rfl, hS1⟩) F.n _ S ⟨s8, rng F.n, rfl, Red.all, by rw [rng_len]; exact Nat.le_refl _, fun p => p, hS⟩
  refine ⟨s8', left, S', ?_, q1, q2, q3, q4⟩
  rw [q2] at e
  unfold LW1 law_w1
  exact sWh_T e (by have := h.1; show F.n + 1 ≤ 1000000; omega)
end
end Dn

set_option Elab.async false
set_option linter.all false
set_option maxRecDepth 100000
set_option maxHeartbeats 4000000
/-! L57d: one frame; the law. -/
namespace Dn
open PySem PySem.Spec PyProof.Rows L2
section
variable {F : Fr} {S : Src} {s2 s3 s4 s5 s6 s7 s8 s9 s10 s11 s12 s13 s14 : Sl}
/-- all lots of a frame -/
theorem lF_ev (h : F.ok) (hn : 1 ≤ F.n) (hn6 : F.n ≤ 6) (hS : SOk S) (p2 : Pl s2) (p7 : Pl s7) (p8 : Pl s8) (p9 : Pl s9) (p10 : Pl s10) (p11 : Pl s11) (p12 : Pl s12) (p13 : Pl s13) (p14 : Pl s14) :
    ∃ (s7' s8' s9' s10' s11' : Sl) (S' : Src), LF1 (lK F s2 s7 s8 s9 s10 s11 s12 s13 s14) S = some (.nx, lK F s2 s7' s8' s9' s10' s11' s12 s13 s14, S') ∧ Pl s7' ∧ Pl s8' ∧ Pl s9' ∧ Pl s10' ∧ Pl s11' ∧ SOk S' := by
  obtain ⟨L, l1, l2⟩ := lots_sem (m := F.n) (S := S) (by omega)
  have l1' : fLots [.im (.int F.n)] S = some (li L, S) := l1
  have Ll : L.length ≤ 1000 := by
    rw [l2.length_eq]
    unfold lotsU
    rw [lotsU_len, rng_len]
    have : 2 ^ F.n ≤ 2 ^ 6 := Nat.pow_le_pow_right (by omega) hn6
    show 1 * 2 ^ F.n ≤ 1000
    omega
  obtain ⟨m, S1, m1, p, hS1⟩ := mixA_li (α := Tp Int) (S := S) (l := L) Ll hS
  have m2 : mm_mixed [.so, .im (li L)] S = some (li m, S1) := by
    have := mix_at (S := S) (k := true) (l := L.map en) (by rw [List.length_map]; exact Ll) hS
    rw [m1] at this
    exact this
  have sl : gSl (li m) none (some 8) = some (.ow (li (m.take 8))) := gSl_li m 8
  have it : itF (eSl (eCall 2 mm_mixed (aCons (eVar 1) (aCons (eCall 1 fLots (aCons (eVar 4) (aNil))) (aNil)))) oNone (oSome (eC (.int 8)))) (lK F s2 s7 s8 s9 s10 s11 s12 s13 s14) S = some ((m.take 8).map en, lK F s2 s7 s8 s9 s10 s11 s12 s13 s14, S1) := by
    simp [lK, l1', m2, sl]
  have hm : ∀ lot ∈ m.take 8, Lot F.n lot ∧ List.length lot ≤ 64 := fun lot hlot => by
    have s := lotsU_mem (l2.mem_iff.mp (p.mem_iff.mp (List.mem_of_mem_take hlot)))
    refine ⟨(lot_rng F.n).sub s, ?_⟩
    have := s.length_le
    rw [rng_len] at this
    omega
  obtain ⟨ρ', S', e, s7', s8', s9', s10', s11', rfl, q7, q8, q9, q10, q11, q, _⟩ := forE (g := gNm 7) (b := lB) (en (α := Tp Int))
    (fun l ρ S => ∃ s7 s8 s9 s10 s11, ρ = lK F s2 s7 s8 s9 s10 s11 s12 s13 s14 ∧ Pl s7 ∧ Pl s8 ∧ Pl s9 ∧ Pl s10 ∧ Pl s11 ∧ SOk S ∧ ∀ lot ∈ l, Lot F.n lot ∧ List.length lot ≤ 64)
    (fun lot l ρ S ⟨s7, s8, s9, s10, s11, g0, g7, g8, g9, g10, g11, gS, gl⟩ => by
      subst g0
      obtain ⟨gl1, gl2⟩ := gl lot (List.mem_cons_self ..)
      obtain ⟨s8', s9', s10', s11', S', e, q8, q9, q10, q11, q⟩ := lB_ev (s2 := s2) (s8 := s8) (s9 := s9) (s10 := s10) (s11 := s11) (s12 := s12) (s13 := s13) (s14 := s14) h hn gl1 gl2 gS p2 g9 g10 g11 p12 p13 p14
      exact ⟨_, _, S', rfl, .inl e, _, _, _, _, _, rfl, rfl, q8, q9, q10, q11, q, fun l2 hl => gl l2 (List.mem_cons_of_mem _ hl)⟩)
    (m.take 8) _ S1 ⟨s7, s8, s9, s10, s11, rfl, p7, p8, p9, p10, p11, hS1, hm⟩
  refine ⟨s7', s8', s9', s10', s11', S', ?_, q7, q8, q9, q10, q11, q⟩
  unfold LF1 law_f1
  rw [sFor_ap, it, bindS]
  exact e
theorem taken_bd (R : List (List Int)) : (∀ x ∈ takenL R, x ∈ rng R.length) ∧ (takenL R).length ≤ R.length := by
  have key : ∀ (k : Nat) (t : TS), (∀ x ∈ t.1, x ∈ rng R.length) → (∀ x ∈ t.2.1, x ∈ rng R.length) → (∀ x ∈ t.2.2, x ∈ t.2.1) →
      (∀ x ∈ (loopF tkC (ltStep R) k t).1, x ∈ rng R.length) ∧ (loopF tkC (ltStep R) k t).1.length ≤ t.1.length + k := by
    intro k
    induction k with
    | zero => exact fun t h1 _ _ => ⟨h1, Nat.le_refl _⟩
    | succ k ih =>
      intro t h1 h2 h3
      show (∀ x ∈ (if tkC t then loopF tkC (ltStep R) k (ltStep R t) else t).1, x ∈ rng R.length) ∧ (if tkC t then loopF tkC (ltStep R) k (ltStep R t) else t).1.length ≤ _
      by_cases c : tkC t = true
      · rw [if_pos c]
        obtain ⟨found, left, some'⟩ := t
        simp only at h1 h2 h3
        cases some' with
        | nil => simp [tkC] at c
        | cons x r =>
          obtain ⟨q1, q2⟩ := ih (ltStep R (found, left, x :: r)) (fun y hy => by
            rcases List.mem_append.mp (show y ∈ found ++ [x] from hy) with hy | hy
            · exact h1 y hy
            · rw [List.mem_singleton.mp hy]; exact h2 x (h3 x (List.mem_cons_self ..))) (fun y hy => h2 y (List.mem_filter.mp hy).1) (fun y hy => (List.mem_filter.mp hy).1)
          refine ⟨q1, ?_⟩
          have e : (ltStep R (found, left, x :: r)).1.length = found.length + 1 := by
            show (found ++ [x]).length = _
            simp
          rw [e] at q2
          show _ ≤ found.length + (k + 1)
          omega
      · rw [if_neg c]
        exact ⟨h1, Nat.le_add_right _ _⟩
  have := key R.length (lt0 R) (fun x hx => by cases hx) (fun x hx => hx) (fun x hx => (List.mem_filter.mp hx).1)
  refine ⟨this.1, ?_⟩
  have h2 := this.2
  simp only [lt0, List.length_nil, Nat.zero_add] at h2
  exact h2
def gK (s2 s3 s4 s5 s6 s7 s8 s9 s10 s11 s12 s13 s14 : Sl) : Rho := [.un, .so, s2, s3, s4, s5, s6, s7, s8, s9, s10, s11, s12, s13, s14, .un]
noncomputable def lO : SS := (sSeq (sSet 3 (eCall 3 fFrm (aCons (eVar 1) (aCons (eC (.int 6)) (aCons (eC (.int 9)) (aNil)))))) (sSeq (sPar [4, 5, 6] (aCons (eBin gIx (eVar 3) (eC (.int 0))) (aCons (eB gRepr (aCons (eVar 3) (aNil))) (aCons (eCall 1 mm_near (aCons (eVar 3) (aNil))) (aNil))))) (sSeq (LF1) (sSeq (sSet 10 (eCall 2 mm_lt (aCons (eVar 6) (aCons (eVar 4) (aNil))))) (sSeq (sSet 12 (eB (g1 gTuple) (aCons (LC4) (aNil)))) (sSeq (sIf (ofE (eBin gNe (eB gRepr (aCons (eLst (aCons (eCall 1 mm_taking_sequence (aCons (eVar 3) (aNil))) (aCons (eCall 1 mm_core_of (aCons (eVar 3) (aNil))) (aNil)))) (aNil))) (eB gRepr (aCons (eLst (aCons (eVar 10) (aCons (eVar 12) (aNil)))) (aNil))))) (sRet (eC (.bool false))) (sNil)) (sSeq (sSet 13 (eFz (eRgL (aCons (eVar 4) aNil)))) (sSeq (sSet 14 (eFz (LC3))) (sSeq (LW1) (sIf (sOr (ofE (eBin gNe (eB (g1 gTuple) (aCons (eVar 13) (aNil))) (eVar 12))) (ofE (eBin gNe (eB gRepr (aCons (eVar 3) (aNil))) (eVar 5)))) (sRet (eC (.bool false))) (sNil)))))))))))
theorem lO_ev (hS : SOk S) (p2 : Pl s2) (p7 : Pl s7) (p8 : Pl s8) (p9 : Pl s9) (p10 : Pl s10) (p11 : Pl s11) (p12 : Pl s12) (p13 : Pl s13) (p14 : Pl s14) :
    ∃ (F : Fr) (s7' s8' s9' s10' s11' s12' s13' s14' : Sl) (S' : Src), lO (gK s2 s3 s4 s5 s6 s7 s8 s9 s10 s11 s12 s13 s14) S = some (.nx, lK F s2 s7' s8' s9' s10' s11' s12' s13' s14', S') ∧ Pl s7' ∧ Pl s8' ∧ Pl s9' ∧ Pl s10' ∧ Pl s11' ∧ Pl s12' ∧ Pl s13' ∧ Pl s14' ∧ SOk S' := by
  obtain ⟨F, S1, f1, h, hn, hn6, _, hS1⟩ := frm_ev (most := 6) (many := 9) (S := S) (by omega) (by omega) (by omega) hS
  have f1' : fFrm [.so, .im (.int 6), .im (.int 9)] S = some (frE F, S1) := f1
  have hn64 := h.1
  have e1 : sSet 3 (eCall 3 fFrm (aCons (eVar 1) (aCons (eC (.int 6)) (aCons (eC (.int 9)) (aNil))))) (gK s2 s3 s4 s5 s6 s7 s8 s9 s10 s11 s12 s13 s14) S = some (.nx, gK s2 (.im (frE F)) s4 s5 s6 s7 s8 s9 s10 s11 s12 s13 s14, S1) := by
    simp [gK, f1']
  have r1 := rep_fr h
  have n1 := near_at h S1
  have e2 : sPar [4, 5, 6] (aCons (eBin gIx (eVar 3) (eC (.int 0))) (aCons (eB gRepr (aCons (eVar 3) (aNil))) (aCons (eCall 1 mm_near (aCons (eVar 3) (aNil))) (aNil)))) (gK s2 (.im (frE F)) s4 s5 s6 s7 s8 s9 s10 s11 s12 s13 s14) S1 = some (.nx, lK F s2 s7 s8 s9 s10 s11 s12 s13 s14, S1) := by
    simp [gK, lK, r1, n1]
  obtain ⟨s7', s8', s9', s10', s11', S2, e3, q7, q8, q9, q10, q11, hS2⟩ := lF_ev (S := S1) h hn hn6 hS1 p2 p7 p8 p9 p10 p11 p12 p13 p14
  have t1 : mm_lt [.im (nearD (nearR F)), .im (.int F.n)] S2 = some (tu (takenL (nearR F)), S2) := by
    have := lt_at (R := nearR F) (by rw [nearR_len]; exact hn64) S2
    rw [nearR_len] at this
    exact this
  have e4 : sSet 10 (eCall 2 mm_lt (aCons (eVar 6) (aCons (eVar 4) (aNil)))) (lK F s2 s7' s8' s9' s10' s11' s12 s13 s14) S2 = some (.nx, lK F s2 s7' s8' s9' (.im (tu (takenL (nearR F)))) s11' s12 s13 s14, S2) := by
    simp [lK, t1]
  have c4 := c4_ev (F := F) (S := S2) (s8 := s8') (told := takenL (nearR F)) hn64 p2 q7 q9 q11 p12 p13 p14
  have e5 : sSet 12 (eB (g1 gTuple) (aCons (LC4) (aNil))) (lK F s2 s7' s8' s9' (.im (tu (takenL (nearR F)))) s11' s12 s13 s14) S2 = some (.nx, lK F s2 s7' s8' s9' (.im (tu (takenL (nearR F)))) s11' (.im (tu (restF F.n (takenL (nearR F))))) s13 s14, S2) := by
    rw [sSet_ap, eB_ap, aCons_ap, c4]
    simp [lK]
  have te := taken_end (nearR F)
  rw [nearR_len] at te
  have u1 := taking_at h S2
  have u2 := core_at h S2
  unfold coreF at u2
  rw [taken_eq h] at u1 u2
  have mT : ∀ x ∈ takenL (nearR F), x ∈ rng F.n := by
    have := (taken_bd (nearR F)).1
    rw [nearR_len] at this
    exact this
  have lT : (takenL (nearR F)).length ≤ 64 := by
    have := (taken_bd (nearR F)).2
    rw [nearR_len] at this
    omega
  have rr := rep_two (n := F.n) (l := takenL (nearR F)) (m := restF F.n (takenL (nearR F))) hn64 mT lT (fun x hx => (mem_restF.mp hx).1) (Nat.le_trans (restF_len _ _) hn64)
  have e6 : sIf (ofE (eBin gNe (eB gRepr (aCons (eLst (aCons (eCall 1 mm_taking_sequence (aCons (eVar 3) (aNil))) (aCons (eCall 1 mm_core_of (aCons (eVar 3) (aNil))) (aNil)))) (aNil))) (eB gRepr (aCons (eLst (aCons (eVar 10) (aCons (eVar 12) (aNil)))) (aNil))))) (sRet (eC (.bool false))) (sNil) (lK F s2 s7' s8' s9' (.im (tu (takenL (nearR F)))) s11' (.im (tu (restF F.n (takenL (nearR F))))) s13 s14) S2 = some (.nx, lK F s2 s7' s8' s9' (.im (tu (takenL (nearR F)))) s11' (.im (tu (restF F.n (takenL (nearR F))))) s13 s14, S2) := by
    simp [lK, u1, u2, rr, sizeLine_eq]
  have e7 : sSet 13 (eFz (eRgL (aCons (eVar 4) aNil))) (lK F s2 s7' s8' s9' (.im (tu (takenL (nearR F)))) s11' (.im (tu (restF F.n (takenL (nearR F))))) s13 s14) S2 = some (.nx, lK F s2 s7' s8' s9' (.im (tu (takenL (nearR F)))) s11' (.im (tu (restF F.n (takenL (nearR F))))) (.im (li (rng F.n))) s14, S2) := by
    simp [lK, rgOf1 (show F.n ≤ 16777216 by omega)]
    rfl
  have c3 := c3_ev (S := S2) h Red.all p2 q7 q8 q9 (pl_im (tu (takenL (nearR F)))) q11 (pl_im (tu (restF F.n (takenL (nearR F))))) p14
  have e8 : sSet 14 (eFz (LC3)) (lK F s2 s7' s8' s9' (.im (tu (takenL (nearR F)))) s11' (.im (tu (restF F.n (takenL (nearR F))))) (.im (li (rng F.n))) s14) S2 = some (.nx, lK F s2 s7' s8' s9' (.im (tu (takenL (nearR F)))) s11' (.im (tu (restF F.n (takenL (nearR F))))) (.im (li (rng F.n))) (.im (li (someL (nearR F) (rng F.n)))), S2) := by
    rw [sSet_ap, eFz_ap, c3]
    simp [lK]
  obtain ⟨s8'', left, S3, e9, w1, w2, w3, hS3⟩ := lWh_ev (S := S2) (s8 := s8') h hS2 p2 q7 q9 (pl_im (tu (takenL (nearR F)))) q11 (pl_im (tu (restF F.n (takenL (nearR F)))))
  have eqn : left = restF F.n (takenL (nearR F)) := red_uniq w1 w2 te.1 te.2
  subst eqn
  have e10 : sIf (sOr (ofE (eBin gNe (eB (g1 gTuple) (aCons (eVar 13) (aNil))) (eVar 12))) (ofE (eBin gNe (eB gRepr (aCons (eVar 3) (aNil))) (eVar 5)))) (sRet (eC (.bool false))) (sNil) (lK F s2 s7' s8'' s9' (.im (tu (takenL (nearR F)))) s11' (.im (tu (restF F.n (takenL (nearR F))))) (.im (li (restF F.n (takenL (nearR F))))) (.im (li ([] : List Int)))) S3 = some (.nx, lK F s2 s7' s8'' s9' (.im (tu (takenL (nearR F)))) s11' (.im (tu (restF F.n (takenL (nearR F))))) (.im (li (restF F.n (takenL (nearR F))))) (.im (li ([] : List Int))), S3) := by
    have gn := gNe_tu (restF F.n (takenL (nearR F))) (restF F.n (takenL (nearR F)))
    simp [lK, r1, gn]
  refine ⟨F, s7', s8'', s9', .im (tu (takenL (nearR F))), s11', .im (tu (restF F.n (takenL (nearR F)))), .im (li (restF F.n (takenL (nearR F)))), .im (li ([] : List Int)), S3, ?_, q7, w3 q8, q9, rfl, q11, rfl, rfl, rfl, hS3⟩
  unfold lO
  rw [seqN e1, seqN e2, seqN e3, seqN e4, seqN e5, seqN e6, seqN e7, seqN e8, seqN e9]
  exact e10
end
def F4 : Fr := ⟨4, [(0, 1), (1, 2), (2, 3), (0, 3)]⟩
theorem F4_ok : F4.ok := ⟨by decide, by decide, by decide⟩
theorem core4 : coreF F4 = [0, 1, 2, 3] := by decide +kernel
theorem law_ok : LawOk 16 1 (sem_law mm_core_of mm_pl mm_of mm_taking_sequence mm_lt fLots mm_mixed mm_is_perfect_in mm_pick mm_are_all_neighbours mm_an mm_neighbours_in mm_near fFrm) := by
  intro ns hns
  obtain ⟨ρ', S', e, s2, s3, s4, s5, s6, s7, s8, s9, s10, s11, s12, s13, s14, rfl, _⟩ := forE (g := gNm 2) (b := lO) (en (α := Int))
    (fun l ρ S => ∃ s2 s3 s4 s5 s6 s7 s8 s9 s10 s11 s12 s13 s14, ρ = gK s2 s3 s4 s5 s6 s7 s8 s9 s10 s11 s12 s13 s14 ∧ Pl s7 ∧ Pl s8 ∧ Pl s9 ∧ Pl s10 ∧ Pl s11 ∧ Pl s12 ∧ Pl s13 ∧ Pl s14 ∧ SOk S)
    (fun lap l ρ S ⟨s2, s3, s4, s5, s6, s7, s8, s9, s10, s11, s12, s13, s14, g0, p7, p8, p9, p10, p11, p12, p13, p14, hS⟩ => by
      subst g0
      obtain ⟨F, s7', s8', s9', s10', s11', s12', s13', s14', S', e, q7, q8, q9, q10, q11, q12, q13, q14, q⟩ := lO_ev (s2 := .im (en lap)) (s3 := s3) (s4 := s4) (s5 := s5) (s6 := s6) hS (pl_im (en lap)) p7 p8 p9 p10 p11 p12 p13 p14
      exact ⟨_, _, S', rfl, .inl e, _, _, _, _, _, _, _, _, _, _, _, _, _, rfl, q7, q8, q9, q10, q11, q12, q13, q14, q⟩)
    (rng 5) (gK .un .un .un .un .un .un .un .un .un .un .un .un .un) (srcOf ns) ⟨_, _, _, _, _, _, _, _, _, _, _, _, _, rfl, rfl, rfl, rfl, rfl, rfl, rfl, rfl, rfl, srcOf_ok hns⟩
  have it : itR (aCons (eC (.int 5)) (aNil)) (gK .un .un .un .un .un .un .un .un .un .un .un .un .un) (srcOf ns) = some ((rng 5).map en, gK .un .un .un .un .un .un .un .un .un .un .un .un .un, srcOf ns) := by
    have r5 : rgOf [.int 5] = some ((rng 5).map en) := rgOf1 (n := 5) (by omega)
    simp [gK, r5]
  have e1 : LF2 (gK .un .un .un .un .un .un .un .un .un .un .un .un .un) (srcOf ns) = some (.nx, gK s2 s3 s4 s5 s6 s7 s8 s9 s10 s11 s12 s13 s14, S') := by
    unfold LF2 law_f2
    rw [sFor_ap, it, bindS]
    exact e
  have k := core_at F4_ok S'
  rw [core4] at k
  have k' : mm_core_of [.im (.tuple [.int 4, .tuple [.tuple [.int 0, .int 1], .tuple [.int 1, .int 2], .tuple [.int 2, .int 3], .tuple [.int 0, .int 3]]])] S' = some (.tuple [.int 0, .int 1, .int 2, .int 3], S') := k
  have gq : gEq (.tuple [.int 0, .int 1, .int 2, .int 3]) (.tuple [.int 0, .int 1, .int 2, .int 3]) = some (.im (.bool true)) := gEq_tu (α := Int) [0, 1, 2, 3] [0, 1, 2, 3]
  refine ⟨gK s2 s3 s4 s5 s6 s7 s8 s9 s10 s11 s12 s13 s14, S', ?_⟩
  show sem_law mm_core_of mm_pl mm_of mm_taking_sequence mm_lt fLots mm_mixed mm_is_perfect_in mm_pick mm_are_all_neighbours mm_an mm_neighbours_in mm_near fFrm (gK .un .un .un .un .un .un .un .un .un .un .un .un .un) (srcOf ns) = _
  unfold sem_law
  rw [seqN e1]
  simp [k', gq, sizeLine_eq]
end Dn

set_option Elab.async false
set_option linter.all false
set_option maxRecDepth 100000
set_option maxHeartbeats 4000000
/-! A57: the law's walk; what the top has written. -/
namespace Dn
open PySem PySem.Spec PyProof.Rows L2
abbrev st__law_source : Stmt := topS 9
theorem sc__law_source : FnScope ["script", "mixed", "cell"] ["script"] (defScope st__law_source) := ⟨rfl, rfl, rfl, by decide +kernel, rfl, by decide +kernel, by decide +kernel⟩
theorem fn__law_source {P : Program} {w : World} {K : PySem.W.Frag} {mg : Str → Option Value} {base : Heap} {f : Addr} {fd : FuncData} (D : Df K mg "_law_source" st__law_source ["script"] f fd) (z_int : mg "int" = none) (z_abs : mg "abs" = none) : FnG P w K mg base 1 f fd ["script"] (spSrc K) := by
  refine fnG (k := 0) D.fn sc__law_source (fun vs H Q E h => ?_) fun cdv A outer s H vs Q E hG hr h => ?_
  · obtain ⟨a, ns, rfl, _⟩ := h
    rfl
  · obtain ⟨a, ns, rfl, hS, hlen, q⟩ := h
    refine ⟨_, pss_cons (ps_set (i := 1) sc__law_source.nd rfl (by first | exact .inl rfl | exact .inr rfl | exact .inr (.inl rfl) | exact .inr (.inr rfl)) pe_int) (pss_cons (ps_for PassesOwn.never rfl (pi_list (pv 0)) (pg_name (i := 2) sc__law_source.nd rfl (by first | exact .inl rfl | exact .inr rfl | exact .inr (.inl rfl) | exact .inr (.inr rfl)))
      (pss_one (ps_set (i := 1) sc__law_source.nd rfl (by first | exact .inl rfl | exact .inr rfl | exact .inr (.inl rfl) | exact .inr (.inr rfl)) (pe_op op_modN (pe_callTy call_int1 (by rfl) z_int boot_int (pa_cons (pe_op op_add (pe_op op_add (pe_op op_mul (pv 1) pe_int) (pe_op op_mul (pv 2) pe_int)) pe_int) pa_nil)) pe_int))))
      (pss_one (ps_ret (pe_disp (pps_cons pe_str (pe_revL (pe_lc (own := [("cell", 2)]) (g := gName 2) (tt := tYes) rfl sc__law_source.nd (pi_list (pv 0)) (blkOk_by (N := ["script", "mixed", "cell"]) (sc := defScope st__law_source) (by decide +kernel)) (fun _ _ _ _ _ => pg_name (i := 2) sc__law_source.nd rfl (by first | exact .inl rfl | exact .inr rfl | exact .inr (.inl rfl) | exact .inr (.inr rfl))) (fun _ _ _ _ _ => pts_nil) (fun _ _ _ _ _ => pe_callB call_abs (by rfl) z_abs (by decide +kernel) (pa_cons (pv 2) pa_nil))))
        (pps_cons pe_str pe_int (pps_cons pe_str (pv 1) (pps_cons pe_str pe_int pps_nil)))) rfl rfl (by decide) (by decide))))), ?_⟩
    -- the loop
    refine ⟨.ref a, rfl, a, rfl, ⟨_, hS⟩, fun i m σ H3 => ∃ y, σ = [some (.ref a), some (.int ((ns.take i).foldl stepM 11)), y] ∧ i + m = ns.length ∧ H3 = H, ⟨ns.length, none, rfl, by omega, rfl⟩, fun i m σ H3 hW => ?_⟩
    obtain ⟨y, rfl, em, rfl⟩ := hW
    by_cases hi : i < ns.length
    · have g : (ns.map V.int)[i]? = some (.int ns[i]) := by rw [List.getElem?_map, List.getElem?_eq_getElem hi]; rfl
      refine .inr ⟨⟨_, _, hS, g⟩, fun σ' H' => ∃ y, σ' = [some (.ref a), some (.int ((ns.take (i + 1)).foldl stepM 11)), y] ∧ H' = H3, fun σ' H' hN => ?_, fun v H' hy => ?_⟩
      · obtain ⟨z, e1, e2⟩ := hN
        exact ⟨m - 1, by omega, z, e1, by omega, e2⟩
      · obtain ⟨rfl, fv⟩ := hy
        obtain rfl : v = .int ns[i] := Option.some.inj ((fv _ hS).symm.trans g)
        have bd := fold_bd (ns.take i) 11 (by omega) (by omega)
        refine ⟨_, rfl, _, _, rfl, rfl, .inr ⟨by omega, by omega⟩, _, rfl, _, _, rfl, rfl, .inr ⟨by omega, by omega⟩, _, _, rfl, rfl, _, _, rfl, rfl, .inl ⟨_, rfl, _, _, rfl, rfl, by omega, some (.int ns[i]), ?_, rfl⟩⟩
        rw [List.take_add_one, List.getElem?_eq_getElem hi, List.foldl_append]
        rfl
    · refine .inl ⟨⟨_, hS, by rw [List.length_map]; omega⟩, ?_⟩
      rw [List.take_of_length_le (by omega)]
      -- the display
      intro p np
      have hS1 : SqL K (upd H3 p (.dK [])) a (ns.map V.int) := seq_keep (fun b o e => by rw [upd_ne (ne_of_none e np)]; exact e) hS
      refine ⟨.ref a, rfl, a, rfl, ⟨_, hS1⟩, fun D nD => ?_⟩
      have nDp : D ≠ p := fun e => by rw [e, upd_same] at nD; cases nD
      have nD0 : H3 D = none := by rw [upd_ne nDp] at nD; exact nD
      refine lc_list (xs := ns.map V.int) (fun i Hc => Hc = upd (upd H3 p (.dK [])) D (.lst ((ns.take i).map fun n => V.int (absI n)))) (by simp) (fun i Hc _ e => by subst e; exact seq_keep (fun b o e => by rw [upd_ne (ne_of_none e nD)]; exact e) hS1) (fun i x Hc hx e => ?_) fun Hc e => ?_
      · subst e
        rw [List.getElem?_map] at hx
        cases hn : ns[i]? with
        | none => rw [hn] at hx; cases hx
        | some n =>
          rw [hn] at hx
          cases hx
          refine ⟨by rfl, ?_⟩
          dsimp only [tYes]
          refine iteT ?_
          refine ⟨_, rfl, n, rfl, _, upd_same, ?_, ?_⟩
          · rw [List.length_map, List.length_take, sizeLine_eq]; omega
          · rw [List.take_add_one, hn]
            funext b
            by_cases hb : b = D
            · subst hb; rw [upd_same, upd_same]; simp [absI]
            · rw [upd_ne hb, upd_ne hb, upd_ne hb]
      · subst e
        have hl : (ns.map V.int).length = ns.length := List.length_map _
        rw [hl, List.take_of_length_le (Nat.le_refl _)]
        refine ⟨D, _, rfl, SqL.of upd_same, fun c nc => ?_⟩
        have ncD : c ≠ D := fun e => by rw [e, upd_same] at nc; cases nc
        have ncp : c ≠ p := fun e => by rw [e, upd_ne (Ne.symm nDp), upd_same] at nc; cases nc
        have nc0 : H3 c = none := by rw [upd_ne ncD, upd_ne ncp] at nc; exact nc
        refine ⟨_, rfl, ?_⟩
        refine ⟨by rw [upd_ne (Ne.symm ncp), upd_ne (Ne.symm nDp), upd_same], [(.inr "cells", .ref c), (.inr "left", .int 1), (.inr "mixed", .int (ns.foldl stepM 11)), (.inr "turn", .int 0)], rfl, by simp, ?_⟩
        refine q _ p c (fun b o e => ?_) np nc0 ⟨?_, ?_, ?_⟩
        · rw [upd_ne (ne_of_none e np), upd_ne (ne_of_none e nc0), upd_ne (ne_of_none e nD0), upd_ne (ne_of_none e np)]; exact e
        · rw [upd_same]; rfl
        · rw [upd_ne ncp, upd_same]
          unfold srcOf
          simp [List.map_reverse]
        · unfold srcOf
          simp
          rw [sizeLine_eq]; omega

abbrev st__law_near : Stmt := topS 15
abbrev LOCP (sc : Scope) (x : Str) : Prop := Loc sc x
theorem sc__law_near : FnScope ["frame", "found", "a", "b", "x"] ["frame"] (defScope st__law_near) := ⟨rfl, rfl, rfl, by decide +kernel, rfl, by decide +kernel, by decide +kernel⟩
theorem fn__law_near {P : Program} {w : World} {K : PySem.W.Frag} {mg : Str → Option Value} {base : Heap} {f : Addr} {fd : FuncData} (D : Df K mg "_law_near" st__law_near ["frame"] f fd) (z_dict : mg "dict" = none) (z_range : mg "range" = none) : Cal P w K mg base 1 "_law_near" 1 mm_near := by
  refine ⟨f, fd, ["frame"], ?_, D.at', D.fn.kp, D.bnd⟩
  refine fnG (k := 0) D.fn sc__law_near (fun vs H Q E h => h.1) fun cdv A outer s H vs Q E hG hr h => ?_
  obtain ⟨hl, a0, c0, F0, S0, ss, dd, S', s1, s2, s3, s4, aok, hm, q⟩ := h
  unfold mm_near FSof at hm
  split at hm
  case isFalse => cases hm
  rename_i hex
  obtain ⟨e1, hok⟩ := hex.choose_spec
  generalize hex.choose = Fm at hm e1 hok
  cases hm
  subst e1
  cases aok with
  | cons ao at' =>
  cases at'
  refine ⟨tNear K, pss_cons (ps_set (i := 1) sc__law_near.nd rfl (by first | exact .inl rfl | exact .inr rfl) (pe_callTy (call_dictP rfl) (by rfl) z_dict boot_dict (pa_cons (pe_lc (own := [("x", 4)]) (g := gName 4) (tt := tYes) rfl sc__law_near.nd (pi_range1 (by rfl) z_range (pa_cons (pe_ix (ix_any (room65 hr)) (pv 0) pe_int (fun _ _ => rfl)) pa_nil)) (blkOk_by (N := ["frame", "found", "a", "b", "x"]) (sc := defScope st__law_near) (by decide +kernel)) (fun _ _ _ _ _ => pg_name (i := 4) sc__law_near.nd rfl (by first | exact .inl rfl | exact .inr rfl)) (fun _ _ _ _ _ => pts_nil) (fun _ _ _ _ _ => pe_tup (pa_cons (pv 4) (pa_cons pe_dnewK pa_nil)))) pa_nil)))
    (pss_cons (ps_for PassesOwn.never rfl (pi_tup (pe_ix (ix_any (room65 hr)) (pv 0) pe_int (fun _ _ => rfl))) (pg_tup (n := 2) rfl (pgs_cons (pg_name (i := 2) sc__law_near.nd rfl (by first | exact .inl rfl | exact .inr rfl)) (pgs_cons (pg_name (i := 3) sc__law_near.nd rfl (by first | exact .inl rfl | exact .inr rfl)) pgs_nil)))
      (pss_one (ps_if (pt_cmpR op_ne (pv 2) (pv 3) (by rfl)) (pss_one (ps_asg (pe_tup (pa_cons pe_int (pa_cons pe_int pa_nil))) (pg_tup (n := 2) rfl (pgs_cons (pg_sub (pe_ix (ix_any (room65 hr)) (pv 1) (pv 2) (fun _ _ => rfl)) (pv 3) (pset_d (hu_of hr))) (pgs_cons (pg_sub (pe_ix (ix_any (room65 hr)) (pv 1) (pv 3) (fun _ _ => rfl)) (pv 2) (pset_d (hu_of hr))) pgs_nil))))) pss_nil)))
    (pss_one (ps_ret (pv 1)))), ?_⟩
  exact near_run s1 hok ao fun p H' F' z1 z2 z3 z4 z5 => q (.ref p) H' F' z2 ⟨z4 _ _ s2.1, z4 _ _ s2.2.1, s2.2.2⟩ (by
    cases y : F' a0 with
    | none => rfl
    | some o => rcases z5 a0 (by rw [y]; simp) with w | w
                · exact absurd s3 w
                · rw [s2.1] at w; cases w) (by
    cases y : F' c0 with
    | none => rfl
    | some o => rcases z5 c0 (by rw [y]; simp) with w | w
                · exact absurd s4 w
                · rw [s2.2.1] at w; cases w) z3 z1 (fun b o e _ _ => z4 b o e) z5

theorem fn_law {P : Program} {w : World} {K : PySem.W.Frag} {mg : Str → Option Value} {base : Heap} {f1 : Addr} {fd1 : FuncData} (D1 : Df K mg "rest_of_lot" st_rest_of_lot ["m", "lot"] f1 fd1) {f3 : Addr} {fd3 : FuncData} (D3 : Df K mg "neighbours_in" st_neighbours_in ["frame", "lot", "crossing"] f3 fd3) {f4 : Addr} {fd4 : FuncData} (D4 : Df K mg "are_all_neighbours" st_are_all_neighbours ["frame", "lot"] f4 fd4) {f5 : Addr} {fd5 : FuncData} (D5 : Df K mg "is_perfect_in" st_is_perfect_in ["frame", "lot", "crossing"] f5 fd5) {f6 : Addr} {fd6 : FuncData} (D6 : Df K mg "taking_sequence" st_taking_sequence ["frame"] f6 fd6) {f7 : Addr} {fd7 : FuncData} (D7 : Df K mg "core_of" st_core_of ["frame"] f7 fd7) {f9 : Addr} {fd9 : FuncData} (D9 : Df K mg "_law_source" st__law_source ["script"] f9 fd9) {f10 : Addr} {fd10 : FuncData} (D10 : Df K mg "_law_pick" st__law_pick ["source", "many"] f10 fd10) {f11 : Addr} {fd11 : FuncData} (D11 : Df K mg "_law_of" st__law_of ["source", "some"] f11 fd11) {f12 : Addr} {fd12 : FuncData} (D12 : Df K mg "_law_mixed" st__law_mixed ["source", "things"] f12 fd12) {f13 : Addr} {fd13 : FuncData} (D13 : Df K mg "_law_lots" st__law_lots ["m"] f13 fd13) {f14 : Addr} {fd14 : FuncData} (D14 : Df K mg "_law_frame" st__law_frame ["source", "most", "many"] f14 fd14) {f15 : Addr} {fd15 : FuncData} (D15 : Df K mg "_law_near" st__law_near ["frame"] f15 fd15) {f16 : Addr} {fd16 : FuncData} (D16 : Df K mg "_law_all_near" st__law_all_near ["near", "lot"] f16 fd16) {f17 : Addr} {fd17 : FuncData} (D17 : Df K mg "_law_perfect" st__law_perfect ["near", "lot", "x"] f17 fd17) {f18 : Addr} {fd18 : FuncData} (D18 : Df K mg "_law_taken" st__law_taken ["near", "n"] f18 fd18) {f19 : Addr} {fd19 : FuncData} (D19 : Df K mg "law" st_law ["script"] f19 fd19) (z_range : mg "range" = none) (z_tuple : mg "tuple" = none) (z_len : mg "len" = none) (z_int : mg "int" = none) (z_max : mg "max" = none) (z_list : mg "list" = none) (z_sorted : mg "sorted" = none) (z_dict : mg "dict" = none) (z_abs : mg "abs" = none) (z_repr : mg "repr" = none) : FnG P w K mg base 6 f19 fd19 ["script"] (spLaw K) := by
  have c_pick : Cal P w K mg base 1 "_law_pick" 2 mm_pick := (cal__law_pick D10 z_int z_max z_len).sem fun ss S r _ => FSrc_sem (m := fnD 4 sem__law_pick) pick_sem ss S r
  have c_of : Cal P w K mg base 2 "_law_of" 2 mm_of := (cal__law_of D11 c_pick z_len).sem fun ss S r _ => FSrc_sem (m := fnD 2 (sem__law_of mm_pick)) of_sem ss S r
  have c_mixed : Cal P w K mg base 2 "_law_mixed" 2 mm_mixed := (cal__law_mixed D12 c_pick z_len z_range z_list).sem fun ss S r _ => FSrc_sem (m := fnD 4 (sem__law_mixed mm_pick)) mix_sem ss S r
  have c_lots : Cal P w K mg base 1 "_law_lots" 1 fLots := cal__law_lots D13 z_sorted z_range
  have c_frame : Cal P w K mg base 3 "_law_frame" 3 fFrm := cal__law_frame D14 c_pick c_mixed z_tuple z_range z_list
  have c_near : Cal P w K mg base 1 "_law_near" 1 mm_near := fn__law_near D15 z_dict z_range
  have c_an : Cal P w K mg base 1 "_law_all_near" 2 mm_an := (cal__law_all_near D16).sem fun ss S r _ => FSof_sem an_sem ss S r
  have c_pl : Cal P w K mg base 2 "_law_perfect" 3 mm_pl := (cal__law_perfect D17 c_an).sem fun ss S r _ => FSof_sem pl_sem ss S r
  have c_lt : Cal P w K mg base 3 "_law_taken" 2 mm_lt := (cal__law_taken D18 c_pl z_tuple z_list z_range).sem fun ss S r _ => FSof_sem lt_sem ss S r
  have c_rest : Cal P w K mg base 1 "rest_of_lot" 2 mm_rest_of_lot := (cal_rest_of_lot D1 z_range z_tuple).sem fun ss S r _ => FSof_sem rest_sem ss S r
  have c_nb : Cal P w K mg base 1 "neighbours_in" 3 mm_neighbours_in := (cal_neighbours_in D3 z_tuple).sem fun ss S r _ => FSof_sem nb_sem ss S r
  have c_all : Cal P w K mg base 2 "are_all_neighbours" 2 mm_are_all_neighbours := (cal_are_all_neighbours D4 c_nb z_len).sem fun ss S r _ => FSof_sem all_sem ss S r
  have c_perf : Cal P w K mg base 3 "is_perfect_in" 3 mm_is_perfect_in := (cal_is_perfect_in D5 c_nb c_all).sem fun ss S r _ => FSof_sem perf_sem ss S r
  have c_tk : Cal P w K mg base 4 "taking_sequence" 1 mm_taking_sequence := (cal_taking_sequence D6 c_perf c_rest z_tuple z_range).sem fun ss S r _ => FSof_sem taking_sem ss S r
  have c_core : Cal P w K mg base 5 "core_of" 1 mm_core_of := (cal_core_of D7 c_tk c_rest).sem fun ss S r _ => FSof_sem core_sem ss S r
  have FS1 : FnG P w K mg base 5 f9 fd9 ["script"] (spSrc K) := (fn__law_source D9 z_int z_abs).mono (by decide)
  refine fnG (k := 5) D19.fn sc_law (fun vs H Q E h => ?_) fun cdv A outer s H vs Q E hG hr wish => ?_
  · obtain ⟨a, ns, rfl, _⟩ := h
    rfl
  · have hG' := guards_deeper hG (envOfC "law" (defScope st_law) s.heap.objs.size f19 cdv)
    refine ⟨_, pss_cons (ps_set (i := 1) sc_law.nd rfl (by first | exact .inl rfl | exact .inr rfl | exact .inr (.inl rfl) | exact .inr (.inr rfl)) (pe_callG FS1 hG' hr (by rfl) D9.at' D9.fn.kp D9.bnd (pa_cons (pv 0) pa_nil))) (der_law c_core c_pl c_of c_tk c_lt c_lots c_mixed c_perf c_pick c_all c_an c_nb c_near c_frame z_range z_tuple z_repr z_list cdv A outer s H E hG' hr), ?_⟩
    exact law_imp (N := 16) (i := 1) law_ok (by decide) (by decide) (by
      obtain ⟨a, ns, h1, h2, h3, h4⟩ := wish
      exact ⟨a, ns, h1, h2, h3, h4⟩) rfl
theorem all_mk {P : Program} {w : World} {K : PySem.W.Frag} {h : Heap} {mg : Str → Option Value} {fa : Addr} (X : K.In h) (G : h.Ns mainGlobals mg) (hfa : mg "law" = some (.ref fa)) {od1 an1 : Option Addr} {sl1 : Array (Option Value)} {oc1 kV1 dc1 pm1 cd1 ct1 : Value} {f1 : Addr} {od3 an3 : Option Addr} {sl3 : Array (Option Value)} {oc3 kV3 dc3 pm3 cd3 ct3 : Value} {f3 : Addr} {od4 an4 : Option Addr} {sl4 : Array (Option Value)} {oc4 kV4 dc4 pm4 cd4 ct4 : Value} {f4 : Addr} {od5 an5 : Option Addr} {sl5 : Array (Option Value)} {oc5 kV5 dc5 pm5 cd5 ct5 : Value} {f5 : Addr} {od6 an6 : Option Addr} {sl6 : Array (Option Value)} {oc6 kV6 dc6 pm6 cd6 ct6 : Value} {f6 : Addr} {od7 an7 : Option Addr} {sl7 : Array (Option Value)} {oc7 kV7 dc7 pm7 cd7 ct7 : Value} {f7 : Addr} {od9 an9 : Option Addr} {sl9 : Array (Option Value)} {oc9 kV9 dc9 pm9 cd9 ct9 : Value} {f9 : Addr} {od10 an10 : Option Addr} {sl10 : Array (Option Value)} {oc10 kV10 dc10 pm10 cd10 ct10 : Value} {f10 : Addr} {od11 an11 : Option Addr} {sl11 : Array (Option Value)} {oc11 kV11 dc11 pm11 cd11 ct11 : Value} {f11 : Addr} {od12 an12 : Option Addr} {sl12 : Array (Option Value)} {oc12 kV12 dc12 pm12 cd12 ct12 : Value} {f12 : Addr} {od13 an13 : Option Addr} {sl13 : Array (Option Value)} {oc13 kV13 dc13 pm13 cd13 ct13 : Value} {f13 : Addr} {od14 an14 : Option Addr} {sl14 : Array (Option Value)} {oc14 kV14 dc14 pm14 cd14 ct14 : Value} {f14 : Addr} {od15 an15 : Option Addr} {sl15 : Array (Option Value)} {oc15 kV15 dc15 pm15 cd15 ct15 : Value} {f15 : Addr} {od16 an16 : Option Addr} {sl16 : Array (Option Value)} {oc16 kV16 dc16 pm16 cd16 ct16 : Value} {f16 : Addr} {od17 an17 : Option Addr} {sl17 : Array (Option Value)} {oc17 kV17 dc17 pm17 cd17 ct17 : Value} {f17 : Addr} {od18 an18 : Option Addr} {sl18 : Array (Option Value)} {oc18 kV18 dc18 pm18 cd18 ct18 : Value} {f18 : Addr} {od19 an19 : Option Addr} {sl19 : Array (Option Value)} {oc19 kV19 dc19 pm19 cd19 ct19 : Value} {f19 : Addr} (a1 : PySem.W.nsIn K mainGlobals "rest_of_lot" = some (some (.ref f1))) (l1 : K.lookup f1 = some ⟨oc1, od1, .func (PySem.W.fnOf "rest_of_lot" "rest_of_lot" (defArgs st_rest_of_lot) (defBody st_rest_of_lot) (defScope st_rest_of_lot) .none kV1 dc1 pm1 an1 cd1 ct1), sl1⟩) (c1 : PySem.W.codeIn K cd1 "rest_of_lot" = true) (k1 : PySem.W.keepIn K (.ref f1) = true) (a3 : PySem.W.nsIn K mainGlobals "neighbours_in" = some (some (.ref f3))) (l3 : K.lookup f3 = some ⟨oc3, od3, .func (PySem.W.fnOf "neighbours_in" "neighbours_in" (defArgs st_neighbours_in) (defBody st_neighbours_in) (defScope st_neighbours_in) .none kV3 dc3 pm3 an3 cd3 ct3), sl3⟩) (c3 : PySem.W.codeIn K cd3 "neighbours_in" = true) (k3 : PySem.W.keepIn K (.ref f3) = true) (a4 : PySem.W.nsIn K mainGlobals "are_all_neighbours" = some (some (.ref f4))) (l4 : K.lookup f4 = some ⟨oc4, od4, .func (PySem.W.fnOf "are_all_neighbours" "are_all_neighbours" (defArgs st_are_all_neighbours) (defBody st_are_all_neighbours) (defScope st_are_all_neighbours) .none kV4 dc4 pm4 an4 cd4 ct4), sl4⟩) (c4 : PySem.W.codeIn K cd4 "are_all_neighbours" = true) (k4 : PySem.W.keepIn K (.ref f4) = true) (a5 : PySem.W.nsIn K mainGlobals "is_perfect_in" = some (some (.ref f5))) (l5 : K.lookup f5 = some ⟨oc5, od5, .func (PySem.W.fnOf "is_perfect_in" "is_perfect_in" (defArgs st_is_perfect_in) (defBody st_is_perfect_in) (defScope st_is_perfect_in) .none kV5 dc5 pm5 an5 cd5 ct5), sl5⟩) (c5 : PySem.W.codeIn K cd5 "is_perfect_in" = true) (k5 : PySem.W.keepIn K (.ref f5) = true) (a6 : PySem.W.nsIn K mainGlobals "taking_sequence" = some (some (.ref f6))) (l6 : K.lookup f6 = some ⟨oc6, od6, .func (PySem.W.fnOf "taking_sequence" "taking_sequence" (defArgs st_taking_sequence) (defBody st_taking_sequence) (defScope st_taking_sequence) .none kV6 dc6 pm6 an6 cd6 ct6), sl6⟩) (c6 : PySem.W.codeIn K cd6 "taking_sequence" = true) (k6 : PySem.W.keepIn K (.ref f6) = true) (a7 : PySem.W.nsIn K mainGlobals "core_of" = some (some (.ref f7))) (l7 : K.lookup f7 = some ⟨oc7, od7, .func (PySem.W.fnOf "core_of" "core_of" (defArgs st_core_of) (defBody st_core_of) (defScope st_core_of) .none kV7 dc7 pm7 an7 cd7 ct7), sl7⟩) (c7 : PySem.W.codeIn K cd7 "core_of" = true) (k7 : PySem.W.keepIn K (.ref f7) = true) (a9 : PySem.W.nsIn K mainGlobals "_law_source" = some (some (.ref f9))) (l9 : K.lookup f9 = some ⟨oc9, od9, .func (PySem.W.fnOf "_law_source" "_law_source" (defArgs st__law_source) (defBody st__law_source) (defScope st__law_source) .none kV9 dc9 pm9 an9 cd9 ct9), sl9⟩) (c9 : PySem.W.codeIn K cd9 "_law_source" = true) (k9 : PySem.W.keepIn K (.ref f9) = true) (a10 : PySem.W.nsIn K mainGlobals "_law_pick" = some (some (.ref f10))) (l10 : K.lookup f10 = some ⟨oc10, od10, .func (PySem.W.fnOf "_law_pick" "_law_pick" (defArgs st__law_pick) (defBody st__law_pick) (defScope st__law_pick) .none kV10 dc10 pm10 an10 cd10 ct10), sl10⟩) (c10 : PySem.W.codeIn K cd10 "_law_pick" = true) (k10 : PySem.W.keepIn K (.ref f10) = true) (a11 : PySem.W.nsIn K mainGlobals "_law_of" = some (some (.ref f11))) (l11 : K.lookup f11 = some ⟨oc11, od11, .func (PySem.W.fnOf "_law_of" "_law_of" (defArgs st__law_of) (defBody st__law_of) (defScope st__law_of) .none kV11 dc11 pm11 an11 cd11 ct11), sl11⟩) (c11 : PySem.W.codeIn K cd11 "_law_of" = true) (k11 : PySem.W.keepIn K (.ref f11) = true) (a12 : PySem.W.nsIn K mainGlobals "_law_mixed" = some (some (.ref f12))) (l12 : K.lookup f12 = some ⟨oc12, od12, .func (PySem.W.fnOf "_law_mixed" "_law_mixed" (defArgs st__law_mixed) (defBody st__law_mixed) (defScope st__law_mixed) .none kV12 dc12 pm12 an12 cd12 ct12), sl12⟩) (c12 : PySem.W.codeIn K cd12 "_law_mixed" = true) (k12 : PySem.W.keepIn K (.ref f12) = true) (a13 : PySem.W.nsIn K mainGlobals "_law_lots" = some (some (.ref f13))) (l13 : K.lookup f13 = some ⟨oc13, od13, .func (PySem.W.fnOf "_law_lots" "_law_lots" (defArgs st__law_lots) (defBody st__law_lots) (defScope st__law_lots) .none kV13 dc13 pm13 an13 cd13 ct13), sl13⟩) (c13 : PySem.W.codeIn K cd13 "_law_lots" = true) (k13 : PySem.W.keepIn K (.ref f13) = true) (a14 : PySem.W.nsIn K mainGlobals "_law_frame" = some (some (.ref f14))) (l14 : K.lookup f14 = some ⟨oc14, od14, .func (PySem.W.fnOf "_law_frame" "_law_frame" (defArgs st__law_frame) (defBody st__law_frame) (defScope st__law_frame) .none kV14 dc14 pm14 an14 cd14 ct14), sl14⟩) (c14 : PySem.W.codeIn K cd14 "_law_frame" = true) (k14 : PySem.W.keepIn K (.ref f14) = true) (a15 : PySem.W.nsIn K mainGlobals "_law_near" = some (some (.ref f15))) (l15 : K.lookup f15 = some ⟨oc15, od15, .func (PySem.W.fnOf "_law_near" "_law_near" (defArgs st__law_near) (defBody st__law_near) (defScope st__law_near) .none kV15 dc15 pm15 an15 cd15 ct15), sl15⟩) (c15 : PySem.W.codeIn K cd15 "_law_near" = true) (k15 : PySem.W.keepIn K (.ref f15) = true) (a16 : PySem.W.nsIn K mainGlobals "_law_all_near" = some (some (.ref f16))) (l16 : K.lookup f16 = some ⟨oc16, od16, .func (PySem.W.fnOf "_law_all_near" "_law_all_near" (defArgs st__law_all_near) (defBody st__law_all_near) (defScope st__law_all_near) .none kV16 dc16 pm16 an16 cd16 ct16), sl16⟩) (c16 : PySem.W.codeIn K cd16 "_law_all_near" = true) (k16 : PySem.W.keepIn K (.ref f16) = true) (a17 : PySem.W.nsIn K mainGlobals "_law_perfect" = some (some (.ref f17))) (l17 : K.lookup f17 = some ⟨oc17, od17, .func (PySem.W.fnOf "_law_perfect" "_law_perfect" (defArgs st__law_perfect) (defBody st__law_perfect) (defScope st__law_perfect) .none kV17 dc17 pm17 an17 cd17 ct17), sl17⟩) (c17 : PySem.W.codeIn K cd17 "_law_perfect" = true) (k17 : PySem.W.keepIn K (.ref f17) = true) (a18 : PySem.W.nsIn K mainGlobals "_law_taken" = some (some (.ref f18))) (l18 : K.lookup f18 = some ⟨oc18, od18, .func (PySem.W.fnOf "_law_taken" "_law_taken" (defArgs st__law_taken) (defBody st__law_taken) (defScope st__law_taken) .none kV18 dc18 pm18 an18 cd18 ct18), sl18⟩) (c18 : PySem.W.codeIn K cd18 "_law_taken" = true) (k18 : PySem.W.keepIn K (.ref f18) = true) (a19 : PySem.W.nsIn K mainGlobals "law" = some (some (.ref f19))) (l19 : K.lookup f19 = some ⟨oc19, od19, .func (PySem.W.fnOf "law" "law" (defArgs st_law) (defBody st_law) (defScope st_law) .none kV19 dc19 pm19 an19 cd19 ct19), sl19⟩) (c19 : PySem.W.codeIn K cd19 "law" = true) (k19 : PySem.W.keepIn K (.ref f19) = true) (zrange : PySem.W.nsIn K mainGlobals "range" = some none) (ztuple : PySem.W.nsIn K mainGlobals "tuple" = some none) (zlen : PySem.W.nsIn K mainGlobals "len" = some none) (zint : PySem.W.nsIn K mainGlobals "int" = some none) (zmax : PySem.W.nsIn K mainGlobals "max" = some none) (zlist : PySem.W.nsIn K mainGlobals "list" = some none) (zsorted : PySem.W.nsIn K mainGlobals "sorted" = some none) (zdict : PySem.W.nsIn K mainGlobals "dict" = some none) (zabs : PySem.W.nsIn K mainGlobals "abs" = some none) (zrepr : PySem.W.nsIn K mainGlobals "repr" = some none) :
    ∃ fd : FuncData, (∀ (s : Shared) (v : Value), BindsTo s fd ⟨[v], []⟩ [("script", v)]) ∧ ∀ base : Heap, K.In base → base.Ns mainGlobals mg → FnG P w K mg base 6 fa fd ["script"] (spLaw K) := by
  have e := hfa.symm.trans (PySem.W.mg_of X G a19)
  cases e
  have F1 := fun_mk (st := st_rest_of_lot) l1 c1 k1
  have b1 := F1.binds (ps := ["m", "lot"]) fun _ _ _ _ _ _ us hl => match us, hl with | [_, _], _ => rfl
  have F3 := fun_mk (st := st_neighbours_in) l3 c3 k3
  have b3 := F3.binds (ps := ["frame", "lot", "crossing"]) fun _ _ _ _ _ _ us hl => match us, hl with | [_, _, _], _ => rfl
  have F4 := fun_mk (st := st_are_all_neighbours) l4 c4 k4
  have b4 := F4.binds (ps := ["frame", "lot"]) fun _ _ _ _ _ _ us hl => match us, hl with | [_, _], _ => rfl
  have F5 := fun_mk (st := st_is_perfect_in) l5 c5 k5
  have b5 := F5.binds (ps := ["frame", "lot", "crossing"]) fun _ _ _ _ _ _ us hl => match us, hl with | [_, _, _], _ => rfl
  have F6 := fun_mk (st := st_taking_sequence) l6 c6 k6
  have b6 := F6.binds (ps := ["frame"]) fun _ _ _ _ _ _ us hl => match us, hl with | [_], _ => rfl
  have F7 := fun_mk (st := st_core_of) l7 c7 k7
  have b7 := F7.binds (ps := ["frame"]) fun _ _ _ _ _ _ us hl => match us, hl with | [_], _ => rfl
  have F9 := fun_mk (st := st__law_source) l9 c9 k9
  have b9 := F9.binds (ps := ["script"]) fun _ _ _ _ _ _ us hl => match us, hl with | [_], _ => rfl
  have F10 := fun_mk (st := st__law_pick) l10 c10 k10
  have b10 := F10.binds (ps := ["source", "many"]) fun _ _ _ _ _ _ us hl => match us, hl with | [_, _], _ => rfl
  have F11 := fun_mk (st := st__law_of) l11 c11 k11
  have b11 := F11.binds (ps := ["source", "some"]) fun _ _ _ _ _ _ us hl => match us, hl with | [_, _], _ => rfl
  have F12 := fun_mk (st := st__law_mixed) l12 c12 k12
  have b12 := F12.binds (ps := ["source", "things"]) fun _ _ _ _ _ _ us hl => match us, hl with | [_, _], _ => rfl
  have F13 := fun_mk (st := st__law_lots) l13 c13 k13
  have b13 := F13.binds (ps := ["m"]) fun _ _ _ _ _ _ us hl => match us, hl with | [_], _ => rfl
  have F14 := fun_mk (st := st__law_frame) l14 c14 k14
  have b14 := F14.binds (ps := ["source", "most", "many"]) fun _ _ _ _ _ _ us hl => match us, hl with | [_, _, _], _ => rfl
  have F15 := fun_mk (st := st__law_near) l15 c15 k15
  have b15 := F15.binds (ps := ["frame"]) fun _ _ _ _ _ _ us hl => match us, hl with | [_], _ => rfl
  have F16 := fun_mk (st := st__law_all_near) l16 c16 k16
  have b16 := F16.binds (ps := ["near", "lot"]) fun _ _ _ _ _ _ us hl => match us, hl with | [_, _], _ => rfl
  have F17 := fun_mk (st := st__law_perfect) l17 c17 k17
  have b17 := F17.binds (ps := ["near", "lot", "x"]) fun _ _ _ _ _ _ us hl => match us, hl with | [_, _, _], _ => rfl
  have F18 := fun_mk (st := st__law_taken) l18 c18 k18
  have b18 := F18.binds (ps := ["near", "n"]) fun _ _ _ _ _ _ us hl => match us, hl with | [_, _], _ => rfl
  have F19 := fun_mk (st := st_law) l19 c19 k19
  have b19 := F19.binds (ps := ["script"]) fun _ _ _ _ _ _ us hl => match us, hl with | [_], _ => rfl
  exact ⟨PySem.W.fnOf "law" "law" (defArgs st_law) (defBody st_law) (defScope st_law) .none kV19 dc19 pm19 an19 cd19 ct19, fun s v => .of_eq rfl, fun base _ _ => fn_law ⟨F1, PySem.W.mg_of X G a1, b1⟩ ⟨F3, PySem.W.mg_of X G a3, b3⟩ ⟨F4, PySem.W.mg_of X G a4, b4⟩ ⟨F5, PySem.W.mg_of X G a5, b5⟩ ⟨F6, PySem.W.mg_of X G a6, b6⟩ ⟨F7, PySem.W.mg_of X G a7, b7⟩ ⟨F9, PySem.W.mg_of X G a9, b9⟩ ⟨F10, PySem.W.mg_of X G a10, b10⟩ ⟨F11, PySem.W.mg_of X G a11, b11⟩ ⟨F12, PySem.W.mg_of X G a12, b12⟩ ⟨F13, PySem.W.mg_of X G a13, b13⟩ ⟨F14, PySem.W.mg_of X G a14, b14⟩ ⟨F15, PySem.W.mg_of X G a15, b15⟩ ⟨F16, PySem.W.mg_of X G a16, b16⟩ ⟨F17, PySem.W.mg_of X G a17, b17⟩ ⟨F18, PySem.W.mg_of X G a18, b18⟩ ⟨F19, PySem.W.mg_of X G a19, b19⟩ (PySem.W.mg_none_of X G zrange) (PySem.W.mg_none_of X G ztuple) (PySem.W.mg_none_of X G zlen) (PySem.W.mg_none_of X G zint) (PySem.W.mg_none_of X G zmax) (PySem.W.mg_none_of X G zlist) (PySem.W.mg_none_of X G zsorted) (PySem.W.mg_none_of X G zdict) (PySem.W.mg_none_of X G zabs) (PySem.W.mg_none_of X G zrepr)⟩
end Dn

open PySem PySem.W PyProof.Rows
set_option maxHeartbeats 0 in
theorem PySem.Challenge.cw_peelings_k57_whole_perfect_crossings_and_holds : PySem.Challenge.rw_peelings_k57_whole_perfect_crossings_and.Holds := by
  w_on; o_law; k_head; (case hw => w_witness2)
  k_fill
  refine Dn.top_walk (l := PySem.Challenge.rw_peelings_k57_whole_perfect_crossings_and) (n := 63) (k := 6) (x := "script") (sp := fun w => Dn.spLaw _) rfl (by decide) rfl ⟨rfl, by decide, by decide⟩ rfl (fun w h Y => PySem.W.kIn_of Y) ?F (fun _ _ a ns hl _ hS => ⟨a, ns, rfl, hS, hl, fun _ => rfl⟩)
  case F =>
    intro w mg fa h KX G hmg
    refine' Dn.all_mk KX G hmg ?a1 ?l1 ?c1 ?k1 ?a3 ?l3 ?c3 ?k3 ?a4 ?l4 ?c4 ?k4 ?a5 ?l5 ?c5 ?k5 ?a6 ?l6 ?c6 ?k6 ?a7 ?l7 ?c7 ?k7 ?a9 ?l9 ?c9 ?k9 ?a10 ?l10 ?c10 ?k10 ?a11 ?l11 ?c11 ?k11 ?a12 ?l12 ?c12 ?k12 ?a13 ?l13 ?c13 ?k13 ?a14 ?l14 ?c14 ?k14 ?a15 ?l15 ?c15 ?k15 ?a16 ?l16 ?c16 ?k16 ?a17 ?l17 ?c17 ?k17 ?a18 ?l18 ?c18 ?k18 ?a19 ?l19 ?c19 ?k19 ?zrange ?ztuple ?zlen ?zint ?zmax ?zlist ?zsorted ?zdict ?zabs ?zrepr
    (case a1 => k_is); (case l1 => k_is); (case c1 => k_is); (case k1 => k_is); (case a3 => k_is); (case l3 => k_is); (case c3 => k_is); (case k3 => k_is); (case a4 => k_is); (case l4 => k_is); (case c4 => k_is); (case k4 => k_is); (case a5 => k_is); (case l5 => k_is); (case c5 => k_is); (case k5 => k_is); (case a6 => k_is); (case l6 => k_is); (case c6 => k_is); (case k6 => k_is); (case a7 => k_is); (case l7 => k_is); (case c7 => k_is); (case k7 => k_is); (case a9 => k_is); (case l9 => k_is); (case c9 => k_is); (case k9 => k_is); (case a10 => k_is); (case l10 => k_is); (case c10 => k_is); (case k10 => k_is); (case a11 => k_is); (case l11 => k_is); (case c11 => k_is); (case k11 => k_is); (case a12 => k_is); (case l12 => k_is); (case c12 => k_is); (case k12 => k_is); (case a13 => k_is); (case l13 => k_is); (case c13 => k_is); (case k13 => k_is); (case a14 => k_is); (case l14 => k_is); (case c14 => k_is); (case k14 => k_is); (case a15 => k_is); (case l15 => k_is); (case c15 => k_is); (case k15 => k_is); (case a16 => k_is); (case l16 => k_is); (case c16 => k_is); (case k16 => k_is); (case a17 => k_is); (case l17 => k_is); (case c17 => k_is); (case k17 => k_is); (case a18 => k_is); (case l18 => k_is); (case c18 => k_is); (case k18 => k_is); (case a19 => k_is); (case l19 => k_is); (case c19 => k_is); (case k19 => k_is); (case zrange => k_is); (case ztuple => k_is); (case zlen => k_is); (case zint => k_is); (case zmax => k_is); (case zlist => k_is); (case zsorted => k_is); (case zdict => k_is); (case zabs => k_is); (case zrepr => k_is)

