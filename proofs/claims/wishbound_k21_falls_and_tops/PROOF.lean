import PyProof.Rows.All
import HandS.ForMost
import HandS.TupAny
import HandS.Conv
import HandS.Strs
import HandS.SortInts
import HandS.IsInst
import KE.GoesEnum
import HandS.SetBool
import PySem.Challenge.RW_wishbound_k21_falls_and_tops
set_option Elab.async false
set_option linter.all false
set_option maxRecDepth 100000
set_option maxHeartbeats 4000000
set_option autoImplicit false
/-! DL0: data in place of the heap. D: a value as a tree; Rep: how it lies; SV: what a slot holds; RG, Aft; TD, PD: readings over slots alone. -/
namespace DL
open PySem PySem.Spec PyProof.Rows L2

abbrev D := PyData
abbrev Sl := L2.St
/-- a list that is never changed again -/
def FzL (K : PySem.W.Frag) (H : Hp) (a : Addr) (xs : List V) : Prop := (∃ o, H a = some (.frz o (.lst xs))) ∨
  ∃ (o : Obj) (its : Array Value) (n : Nat), K.lookup a = some o ∧ o.cls = .type "list" ∧ o.dict = none ∧ o.data = .seq its n ∧ its.size ≤ sizeLine ∧ Vals xs its.toList
theorem FzL.sq {K : PySem.W.Frag} {H : Hp} {a : Addr} {xs : List V} (h : FzL K H a xs) : SqL K H a xs := h.elim (fun h => .inl (.inr h)) .inr
/-- a tuple: made, or written in the text -/
def StT (K : PySem.W.Frag) (H : Hp) (a : Addr) (xs : List V) : Prop := H a = some (.tup xs) ∨
  ∃ (o : Obj) (its : Array Value) (n : Nat), K.lookup a = some o ∧ o.cls = .type "tuple" ∧ o.data = .seq its n ∧ its.size ≤ sizeLine ∧ Vals xs its.toList
theorem StT.sq {K : PySem.W.Frag} {H : Hp} {a : Addr} {xs : List V} (h : StT K H a xs) : SqT K H a xs := h.elim (fun h => .inl (.inl h)) .inr
mutual
/-- v stands for d, for ever -/
def Rep (K : PySem.W.Frag) (H : Hp) : D → V → Prop
  | .none, v => v = .non
  | .bool b, v => v = .bl b
  | .int i, v => v = .int i
  | .str x, v => v = .str x ∧ PyData.strOk x = true
  | .tuple ds, v => ∃ a vs, v = .ref a ∧ StT K H a vs ∧ Reps K H ds vs
  | .list ds, v => ∃ a vs, v = .ref a ∧ FzL K H a vs ∧ Reps K H ds vs
  | .dict _, _ => False
def Reps (K : PySem.W.Frag) (H : Hp) : List D → List V → Prop
  | [], vs => vs = []
  | d :: ds, vs => ∃ v r, vs = v :: r ∧ Rep K H d v ∧ Reps K H ds r
end
/-- what never changes stays -/
def Imm (H H' : Hp) : Prop := ∀ a u, H a = some u → ¬ Mut (some u) → H' a = some u
section
variable {K : PySem.W.Frag} {H H' H1 H2 : Hp}
theorem Imm.refl (H : Hp) : Imm H H := fun _ _ h _ => h
theorem Imm.trans (a : Imm H H1) (b : Imm H1 H2) : Imm H H2 := fun c u h m => b c u (a c u h m) m
theorem Imm.upd {p : Addr} {o : HO} (h : H p = none ∨ Mut (H p)) : Imm H (upd H p o) := fun a u e m => by
  have ne : a ≠ p := fun z => by
    subst z
    rcases h with h | h
    · rw [h] at e; cases e
    · rw [e] at h; exact m h
  rw [upd_ne ne]; exact e
theorem SqT.imm {a : Addr} {xs : List V} (h : SqT K H a xs) (i : Imm H H') : SqT K H' a xs := by
  rcases h with (h | ⟨o, h⟩) | h
  · exact .inl (.inl (i _ _ h (fun z => z)))
  · exact .inl (.inr ⟨o, i _ _ h (fun z => z)⟩)
  · exact .inr h
theorem FzL.imm {a : Addr} {xs : List V} (h : FzL K H a xs) (i : Imm H H') : FzL K H' a xs := by
  rcases h with ⟨o, h⟩ | h
  · exact .inl ⟨o, i _ _ h (fun z => z)⟩
  · exact .inr h
theorem StT.imm {a : Addr} {xs : List V} (h : StT K H a xs) (i : Imm H H') : StT K H' a xs := by
  rcases h with h | h
  · exact .inl (i _ _ h (fun z => z))
  · exact .inr h
mutual
theorem Rep.imm : ∀ {d : D} {v : V}, Rep K H d v → Imm H H' → Rep K H' d v
  | .none, _, h, _ => h
  | .bool _, _, h, _ => h
  | .int _, _, h, _ => h
  | .str _, _, h, _ => h
  | .tuple ds, _, h, i => by
    obtain ⟨a, vs, e, h1, h2⟩ := h
    exact ⟨a, vs, e, StT.imm h1 i, Reps.imm h2 i⟩
  | .list ds, _, h, i => by
    obtain ⟨a, vs, e, h1, h2⟩ := h
    exact ⟨a, vs, e, FzL.imm h1 i, Reps.imm h2 i⟩
  | .dict _, _, h, _ => h
theorem Reps.imm : ∀ {ds : List D} {vs : List V}, Reps K H ds vs → Imm H H' → Reps K H' ds vs
  | [], _, h, _ => h
  | d :: ds, _, h, i => by
    obtain ⟨v, r, e, h1, h2⟩ := h
    exact ⟨v, r, e, Rep.imm h1 i, Reps.imm h2 i⟩
end
theorem Reps.len : ∀ {ds : List D} {vs : List V}, Reps K H ds vs → vs.length = ds.length
  | [], _, h => by rw [show _ = [] from h]; rfl
  | _ :: _, _, h => by
    obtain ⟨v, r, rfl, _, h2⟩ := h
    simp only [List.length_cons, Reps.len h2]
theorem Reps.get : ∀ {ds : List D} {vs : List V} {i : Nat} {d : D}, Reps K H ds vs → ds[i]? = some d → ∃ v, vs[i]? = some v ∧ Rep K H d v
  | [], _, _, _, _, e => by simp at e
  | x :: ds, _, 0, d, h, e => by
    obtain ⟨v, r, rfl, h1, h2⟩ := h
    simp only [List.getElem?_cons_zero, Option.some.injEq] at e
    subst e
    exact ⟨v, rfl, h1⟩
  | x :: ds, _, i + 1, d, h, e => by
    obtain ⟨v, r, rfl, h1, h2⟩ := h
    simp only [List.getElem?_cons_succ] at e
    obtain ⟨u, e1, e2⟩ := Reps.get h2 e
    exact ⟨u, by simpa using e1, e2⟩
theorem Reps.append : ∀ {ds es : List D} {vs us : List V}, Reps K H ds vs → Reps K H es us → Reps K H (ds ++ es) (vs ++ us)
  | [], _, _, _, h, h' => by rw [show _ = [] from h]; exact h'
  | _ :: _, _, _, _, h, h' => by
    obtain ⟨v, r, rfl, h1, h2⟩ := h
    exact ⟨v, _, rfl, h1, Reps.append h2 h'⟩
theorem Reps.one {d : D} {v : V} (h : Rep K H d v) : Reps K H [d] [v] := ⟨v, [], rfl, h, rfl⟩
theorem Reps.take : ∀ {ds : List D} {vs : List V} (n : Nat), Reps K H ds vs → Reps K H (ds.take n) (vs.take n)
  | _, _, 0, _ => by simp only [List.take_zero]; exact rfl
  | [], _, _ + 1, h => by rw [show _ = [] from h]; exact rfl
  | _ :: _, _, n + 1, h => by
    obtain ⟨v, r, rfl, h1, h2⟩ := h
    exact ⟨v, _, rfl, h1, Reps.take n h2⟩
theorem Reps.drop : ∀ {ds : List D} {vs : List V} (n : Nat), Reps K H ds vs → Reps K H (ds.drop n) (vs.drop n)
  | _, _, 0, h => h
  | [], _, _ + 1, h => by rw [show _ = [] from h]; exact rfl
  | _ :: _, _, n + 1, h => by
    obtain ⟨v, r, rfl, h1, h2⟩ := h
    exact Reps.drop n h2
theorem Reps.set {d : D} {v : V} (h : Rep K H d v) : ∀ {ds : List D} {vs : List V} (n : Nat), Reps K H ds vs → Reps K H (ds.set n d) (vs.set n v)
  | [], _, _, q => by rw [show _ = [] from q]; exact rfl
  | _ :: _, _, 0, q => by
    obtain ⟨u, r, rfl, h1, h2⟩ := q
    exact ⟨v, r, rfl, h, h2⟩
  | _ :: _, _, n + 1, q => by
    obtain ⟨u, r, rfl, h1, h2⟩ := q
    exact ⟨u, _, rfl, h1, Reps.set h n h2⟩
theorem Reps.eraseIdx : ∀ {ds : List D} {vs : List V} (n : Nat), Reps K H ds vs → Reps K H (ds.eraseIdx n) (vs.eraseIdx n)
  | [], _, _, q => by rw [show _ = [] from q]; exact rfl
  | _ :: _, _, 0, q => by
    obtain ⟨u, r, rfl, h1, h2⟩ := q
    exact h2
  | _ :: _, _, n + 1, q => by
    obtain ⟨u, r, rfl, h1, h2⟩ := q
    exact ⟨u, _, rfl, h1, Reps.eraseIdx n h2⟩
theorem Reps.reverse : ∀ {ds : List D} {vs : List V}, Reps K H ds vs → Reps K H ds.reverse vs.reverse
  | [], _, q => by rw [show _ = [] from q]; exact rfl
  | _ :: _, _, q => by
    obtain ⟨u, r, rfl, h1, h2⟩ := q
    simp only [List.reverse_cons]
    exact Reps.append (Reps.reverse h2) (Reps.one h1)
theorem Reps.dropLast : ∀ {ds : List D} {vs : List V}, Reps K H ds vs → Reps K H ds.dropLast vs.dropLast := fun {ds vs} h => by
  rw [List.dropLast_eq_take, List.dropLast_eq_take, h.len]
  exact h.take _
theorem Reps.ints : ∀ {xs : List Int} {vs : List V}, Reps K H (xs.map .int) vs → vs = xs.map V.int
  | [], _, h => h
  | x :: xs, _, h => by
    obtain ⟨v, r, rfl, h1, h2⟩ := h
    rw [Reps.ints h2, show v = .int x from h1]
    rfl
theorem Reps.of_ints : ∀ (xs : List Int), Reps K H (xs.map .int) (xs.map V.int)
  | [] => rfl
  | x :: xs => ⟨_, _, rfl, rfl, Reps.of_ints xs⟩
theorem Reps.strs : ∀ {xs : List Str} {vs : List V}, Reps K H (xs.map .str) vs → vs = xs.map V.str
  | [], _, h => h
  | x :: xs, _, h => by
    obtain ⟨v, r, rfl, h1, h2⟩ := h
    rw [Reps.strs h2, show v = .str x from h1.1]
    rfl
theorem Reps.of_strs : ∀ (xs : List Str), (∀ x ∈ xs, PyData.strOk x = true) → Reps K H (xs.map .str) (xs.map V.str)
  | [], _ => rfl
  | x :: xs, h => ⟨_, _, rfl, ⟨rfl, h x List.mem_cons_self⟩, Reps.of_strs xs fun y hy => h y (List.mem_cons_of_mem _ hy)⟩
theorem Reps.bools : ∀ {xs : List Bool} {vs : List V}, Reps K H (xs.map .bool) vs → vs = xs.map V.bl
  | [], _, h => h
  | x :: xs, _, h => by
    obtain ⟨v, r, rfl, h1, h2⟩ := h
    rw [Reps.bools h2, show v = .bl x from h1]
    rfl
end

/-! ### what a slot holds -/
/-- what is one's own to change: a list; a dict with int keys, with keys that are tuples of ints; a set of ints -/
inductive O where
  | lst (ds : List D)
  | dI (kvs : List (Int × D))
  | dT (kvs : List (List Int × D))
/-- a slot, or what an expression gives: nothing known; data; an object of one's own; a value as it is; (of expressions alone) what the slot i holds -/
inductive SV where
  | no
  | fz (d : D)
  | ow (p : Addr) (o : O)
  | raw (v : V)
  | bw (i : Nat)
abbrev G := List SV
def PRep {κ κ' : Type} (K : PySem.W.Frag) (H : Hp) (f : κ → κ') : List (κ × D) → List (κ' × V) → Prop
  | [], vs => vs = []
  | (k, d) :: r, vs => ∃ v r', vs = (f k, v) :: r' ∧ Rep K H d v ∧ PRep K H f r r'
theorem PRep.imm {κ κ' : Type} {K : PySem.W.Frag} {H H' : Hp} {f : κ → κ'} : ∀ {kvs : List (κ × D)} {vs : List (κ' × V)}, PRep K H f kvs vs → Imm H H' → PRep K H' f kvs vs
  | [], _, h, _ => h
  | (k, d) :: r, _, h, i => by
    obtain ⟨v, r', e, h1, h2⟩ := h
    exact ⟨v, r', e, h1.imm i, PRep.imm h2 i⟩
def kI (i : Int) : Key := .inl i
def kT (xs : List Int) : List Key := xs.map .inl
def OwnOk (K : PySem.W.Frag) (H : Hp) (p : Addr) : O → Prop
  | .lst ds => ∃ vs, H p = some (.lst vs) ∧ Reps K H ds vs
  | .dI kvs => ∃ vs, H p = some (.dK vs) ∧ PRep K H kI kvs vs
  | .dT kvs => ∃ vs, H p = some (.dT vs) ∧ PRep K H kT kvs vs
/-- the address p is of one's own -/
def own (Γ : G) (p : Addr) : Prop := ∃ (i : Nat) (o : O), Γ[i]? = some (SV.ow p o)
structure RG (K : PySem.W.Frag) (H : Hp) (σ : Sl) (Γ : G) : Prop where
  len : Γ.length = σ.length
  fz : ∀ (i : Nat) (d : D), Γ[i]? = some (.fz d) → ∃ v, σ[i]? = some (some v) ∧ Rep K H d v
  ow : ∀ (i : Nat) (p : Addr) (o : O), Γ[i]? = some (.ow p o) → σ[i]? = some (some (.ref p)) ∧ OwnOk K H p o
  raw : ∀ (i : Nat) (v : V), Γ[i]? = some (.raw v) → σ[i]? = some (some v)
  one : ∀ (i j : Nat) (p : Addr) (o o' : O), Γ[i]? = some (.ow p o) → Γ[j]? = some (.ow p o') → i = j
/-- what stands behind a piece of code -/
structure Aft (K : PySem.W.Frag) (H : Hp) (Γ : G) (H' : Hp) (σ' : Sl) (Γ' : G) : Prop where
  keep : ∀ a u, H a = some u → ¬ own Γ a → H' a = some u
  rg : RG K H' σ' Γ'
  sh : ∀ a, own Γ' a → own Γ a ∨ H a = none
/-- what an expression's value is -/
def Res (K : PySem.W.Frag) (H : Hp) (σ : Sl) (Γ : G) (H' : Hp) (Γ' : G) (v : V) : SV → Prop
  | .no => True
  | .fz d => Rep K H' d v
  | .ow p o => v = .ref p ∧ OwnOk K H' p o ∧ ¬ own Γ' p ∧ (own Γ p ∨ H p = none)
  | .raw u => v = u
  | .bw i => σ[i]? = some (some v)
section
variable {K : PySem.W.Frag} {H H' H1 H2 : Hp} {σ σ' σ1 σ2 : Sl} {Γ Γ' Γ1 Γ2 : G} {p : Addr} {o : O} {v : V} {r : SV}
theorem OwnOk.mut (h : OwnOk K H p o) : Mut (H p) := by
  cases o with
  | lst ds => obtain ⟨vs, e, _⟩ := h; rw [e]; trivial
  | dI kvs => obtain ⟨vs, e, _⟩ := h; rw [e]; trivial
  | dT kvs => obtain ⟨vs, e, _⟩ := h; rw [e]; trivial
theorem OwnOk.keep (h : OwnOk K H p o) (e : ∀ u, H p = some u → H' p = some u) (i : Imm H H') : OwnOk K H' p o := by
  cases o with
  | lst ds => obtain ⟨vs, q, r⟩ := h; exact ⟨vs, e _ q, r.imm i⟩
  | dI kvs => obtain ⟨vs, q, r⟩ := h; exact ⟨vs, e _ q, r.imm i⟩
  | dT kvs => obtain ⟨vs, q, r⟩ := h; exact ⟨vs, e _ q, r.imm i⟩
theorem RG.mut (h : RG K H σ Γ) (q : own Γ p) : Mut (H p) := by
  obtain ⟨i, o, e⟩ := q
  exact (h.ow i p o e).2.mut
theorem RG.there (h : RG K H σ Γ) (q : own Γ p) : H p ≠ none := fun z => by
  have := h.mut q
  rw [z] at this
  exact this
theorem Aft.imm (a : Aft K H Γ H' σ' Γ') (h : RG K H σ Γ) : Imm H H' := fun b u e m => a.keep b u e fun q => by
  have := h.mut q
  rw [e] at this
  exact m this
theorem Aft.refl (h : RG K H σ Γ) : Aft K H Γ H σ Γ := ⟨fun _ _ e _ => e, h, fun _ q => .inl q⟩
theorem Aft.trans (h : RG K H σ Γ) (a : Aft K H Γ H1 σ1 Γ1) (b : Aft K H1 Γ1 H2 σ2 Γ2) : Aft K H Γ H2 σ2 Γ2 := by
  refine ⟨fun c u e n => b.keep c u (a.keep c u e n) fun q => ?_, b.rg, fun c q => ?_⟩
  · rcases a.sh c q with q | q
    · exact n q
    · rw [e] at q; cases q
  · rcases b.sh c q with q | q
    · exact a.sh c q
    · cases e : H c with
      | none => exact .inr rfl
      | some u =>
        by_cases n : own Γ c
        · exact .inl n
        · have := a.keep c u e n
          rw [q] at this; cases this
/-- fresh for the first, fresh for the second -/
theorem Aft.fresh (a : Aft K H Γ H1 σ1 Γ1) (h : own Γ1 p ∨ H1 p = none) : own Γ p ∨ H p = none := by
  rcases h with q | q
  · exact a.sh p q
  · cases e : H p with
    | none => exact .inr rfl
    | some u =>
      by_cases n : own Γ p
      · exact .inl n
      · have := a.keep p u e n
        rw [q] at this; cases this
/-- a value that was given ahead of more code -/
theorem Res.later (h : RG K H σ Γ) (a1 : RG K H1 σ Γ1) (a : Aft K H1 Γ1 H2 σ Γ2) (q : Res K H σ Γ H1 Γ1 v r) : Res K H σ Γ H2 Γ2 v r := by
  cases r with
  | no => trivial
  | fz d => exact Rep.imm q (a.imm a1)
  | ow p o =>
    obtain ⟨e, w, n, f⟩ := q
    refine ⟨e, w.keep (fun u z => a.keep p u z n) (a.imm a1), fun z => ?_, f⟩
    rcases a.sh p z with z | z
    · exact n z
    · have := w.mut
      rw [z] at this; exact this
  | raw u => exact q
  | bw i => exact q
/-- a value given by the second piece of code, told of both -/
theorem Res.from (a : Aft K H Γ H1 σ1 Γ1) (q : Res K H1 σ Γ1 H2 Γ2 v r) : Res K H σ Γ H2 Γ2 v r := by
  cases r with
  | no => trivial
  | fz d => exact q
  | ow p o =>
    obtain ⟨e, w, n, f⟩ := q
    exact ⟨e, w, n, a.fresh f⟩
  | raw u => exact q
  | bw i => exact q
end

/-! ### readings over slots -/
abbrev TD := G → (SV → G → Prop) → Prop
def lift (K : PySem.W.Frag) (t : TD) : TE := fun σ H Q => ∃ Γ, RG K H σ Γ ∧ t Γ fun r Γ' => ∀ v H', Aft K H Γ H' σ Γ' → Res K H σ Γ H' Γ' v r → Q v H'
def Mono (t : TD) : Prop := ∀ Γ (Q Q' : SV → G → Prop), (∀ r Γ', Q r Γ' → Q' r Γ') → t Γ Q → t Γ Q'
structure PD (X : Cx) (e : Expr) (t : TD) : Prop where
  run : PE X e (lift X.K t)
  mono : Mono t
theorem PE.imp {X : Cx} {e : Expr} {t t' : TE} (h : PE X e t) (hi : ∀ σ H Q, t' σ H Q → t σ H Q) : PE X e t' := ⟨fun pins s σ H Q I q => h.run pins s σ H Q I (hi _ _ _ q)⟩
/-- tests -/
abbrev TB := G → (Bool → G → Prop) → Prop
def liftB (K : PySem.W.Frag) (t : TB) : TT := fun σ H Q => ∃ Γ, RG K H σ Γ ∧ t Γ fun b Γ' => ∀ H', Aft K H Γ H' σ Γ' → Q b H'
def MonoB (t : TB) : Prop := ∀ Γ (Q Q' : Bool → G → Prop), (∀ b Γ', Q b Γ' → Q' b Γ') → t Γ Q → t Γ Q'
structure PB (X : Cx) (e : Expr) (t : TB) : Prop where
  run : PT X e (liftB X.K t)
  mono : MonoB t
/-- arguments -/
abbrev TAD := G → (List SV → G → Prop) → Prop
def Ress (K : PySem.W.Frag) (H : Hp) (σ : Sl) (Γ : G) (H' : Hp) (Γ' : G) : List SV → List V → Prop
  | [], vs => vs = []
  | r :: rs, vs => ∃ v w, vs = v :: w ∧ Res K H σ Γ H' Γ' v r ∧ Ress K H σ Γ H' Γ' rs w
def liftA (K : PySem.W.Frag) (t : TAD) : TA := fun σ H Q => ∃ Γ, RG K H σ Γ ∧ t Γ fun rs Γ' => ∀ vs H', Aft K H Γ H' σ Γ' → Ress K H σ Γ H' Γ' rs vs → Q vs H'
def MonoA (t : TAD) : Prop := ∀ Γ (Q Q' : List SV → G → Prop), (∀ r Γ', Q r Γ' → Q' r Γ') → t Γ Q → t Γ Q'
structure PAD (X : Cx) (es : List Expr) (t : TAD) : Prop where
  run : PA X es (liftA X.K t)
  mono : MonoA t
  len : ∀ Γ Q, t Γ Q → t Γ fun rs Γ' => rs.length = es.length ∧ Q rs Γ'
/-- statements -/
structure EndD where
  nx : G → Prop
  rt : SV → G → Prop
  bk : G → Prop := fun _ => False
  ct : G → Prop := fun _ => False
abbrev TSD := EndD → G → Prop
def liftD (K : PySem.W.Frag) (Γ : G) (H : Hp) (D : Ends) : EndD where
  nx := fun Γ' => ∀ σ' H', Aft K H Γ H' σ' Γ' → D.nx σ' H'
  rt := fun r Γ' => ∀ v σ' H', Aft K H Γ H' σ' Γ' → Res K H σ' Γ H' Γ' v r → D.rt v H'
  bk := fun Γ' => ∀ σ' H', Aft K H Γ H' σ' Γ' → D.bk σ' H'
  ct := fun Γ' => ∀ σ' H', Aft K H Γ H' σ' Γ' → D.ct σ' H'
def liftS (K : PySem.W.Frag) (t : TSD) : TS := fun D σ H => ∃ Γ, RG K H σ Γ ∧ t (liftD K Γ H D) Γ
structure EndD.Le (D D' : EndD) : Prop where
  nx : ∀ Γ, D.nx Γ → D'.nx Γ
  rt : ∀ r Γ, D.rt r Γ → D'.rt r Γ
  bk : ∀ Γ, D.bk Γ → D'.bk Γ
  ct : ∀ Γ, D.ct Γ → D'.ct Γ
def MonoS (t : TSD) : Prop := ∀ (D D' : EndD) Γ, D.Le D' → t D Γ → t D' Γ
structure PDS (X : Cx) (st : Stmt) (t : TSD) : Prop where
  run : PS X st (liftS X.K t)
  mono : MonoS t
structure PDSs (X : Cx) (st : List Stmt) (t : TSD) : Prop where
  run : PSs X st (liftS X.K t)
  mono : MonoS t
theorem PS.imp {X : Cx} {st : Stmt} {t t' : TS} (h : PS X st t) (hi : ∀ D σ H, t' D σ H → t D σ H) : PS X st t' := ⟨fun pins s σ H D I q => h.run pins s σ H D I (hi _ _ _ q)⟩
theorem PSs.imp {X : Cx} {st : List Stmt} {t t' : TS} (h : PSs X st t) (hi : ∀ D σ H, t' D σ H → t D σ H) : PSs X st t' := ⟨fun pins s σ H D I q => h.run pins s σ H D I (hi _ _ _ q)⟩
theorem PT.imp {X : Cx} {e : Expr} {t t' : TT} (h : PT X e t) (hi : ∀ σ H Q, t' σ H Q → t σ H Q) : PT X e t' := ⟨fun pins s σ H Q I q => h.run pins s σ H Q I (hi _ _ _ q)⟩
theorem PA.imp {X : Cx} {e : List Expr} {t t' : TA} (h : PA X e t) (hi : ∀ σ H Q, t' σ H Q → t σ H Q) : PA X e t' := ⟨fun pos pins s σ H Q I q => h.run pos pins s σ H Q I (hi _ _ _ q)⟩

end DL
/-! DL1: data as the library reads it; operators, calls of built-ins, displays, names. -/
namespace DL
open PySem PySem.Spec PyProof.Rows L2

/-! ### reads -/
section
variable {X : Cx} {pins : List (Addr × Obj)} {σ : Sl} {H : Hp} {s : Shared}
mutual
theorem rep_reads (I : Inv X pins σ H s) : ∀ {d : D} {v : V} {u : Value}, Rep X.K H d v → RelV v u → ∃ as, Reads s.heap u d as
  | .none, _, _, h, r => by
    cases (show _ = V.non from h)
    cases r
    exact ⟨_, .none⟩
  | .bool b, _, _, h, r => by
    cases (show _ = V.bl b from h)
    cases r
    exact ⟨_, .bool b⟩
  | .int i, _, _, h, r => by
    cases (show _ = V.int i from h)
    obtain ⟨t, rfl⟩ := r
    exact ⟨_, .int i t⟩
  | .str x, _, _, h, r => by
    cases (show _ = V.str x from h.1)
    obtain ⟨t, rfl⟩ := r
    exact ⟨_, .str x t⟩
  | .tuple ds, _, _, h, r => by
    obtain ⟨a, vs, rfl, h1, h2⟩ := h
    cases r
    obtain ⟨its, rv, ⟨o, e1, e2, n, e3⟩, _⟩ := I.tuple h1.sq
    obtain ⟨as, q⟩ := reps_reads I h2 rv
    exact ⟨_, .tuple e1 e2 e3 (by simpa using q)⟩
  | .list ds, _, _, h, r => by
    obtain ⟨a, vs, rfl, h1, h2⟩ := h
    cases r
    obtain ⟨its, rv, ⟨o, n, e1, e2, _, e3⟩, _⟩ := I.list h1.sq
    obtain ⟨as, q⟩ := reps_reads I h2 rv
    exact ⟨_, .list e1 e2 e3 (by simpa using q)⟩
  | .dict _, _, _, h, _ => (show False from h).elim
theorem reps_reads (I : Inv X pins σ H s) : ∀ {ds : List D} {vs : List V} {us : List Value}, Reps X.K H ds vs → Vals vs us → ∃ as, ReadsAll s.heap us ds as
  | [], _, _, h, r => by
    cases (show _ = ([] : List V) from h)
    cases r
    exact ⟨_, .nil⟩
  | d :: ds, _, _, h, r => by
    obtain ⟨v, w, rfl, h1, h2⟩ := h
    cases r with
    | cons r1 r2 =>
      obtain ⟨as, q1⟩ := rep_reads I h1 r1
      obtain ⟨bs, q2⟩ := reps_reads I h2 r2
      exact ⟨_, .cons q1 q2⟩
end
end
mutual
theorem Rep.lay {K : PySem.W.Frag} {H : Hp} : ∀ {d : D} {v : V}, Rep K H d v → d.canLay0 = true
  | .none, _, _ => by simp [PyData.canLay0]
  | .bool b, _, _ => by simp [PyData.canLay0]
  | .int i, _, _ => by simp [PyData.canLay0]
  | .str x, _, h => by simpa [PyData.canLay0] using h.2
  | .tuple ds, _, h => by
    obtain ⟨a, vs, rfl, h1, h2⟩ := h
    simpa [PyData.canLay0] using Reps.lay h2
  | .list ds, _, h => by
    obtain ⟨a, vs, rfl, h1, h2⟩ := h
    simpa [PyData.canLay0] using Reps.lay h2
  | .dict _, _, h => (show False from h).elim
theorem Reps.lay {K : PySem.W.Frag} {H : Hp} : ∀ {ds : List D} {vs : List V}, Reps K H ds vs → PyData.canLayAll0 ds = true
  | [], _, _ => by simp [PyData.canLayAll0]
  | d :: ds, _, h => by
    obtain ⟨v, w, rfl, h1, h2⟩ := h
    simp [PyData.canLayAll0, Rep.lay h1, Reps.lay h2]
end
/-- as it is now: a list may change later -/
def RepN (K : PySem.W.Frag) (H : Hp) (d : D) (v : V) : Prop := (∃ ds a vs, d = .list ds ∧ v = .ref a ∧ Rd H a (.lst vs) ∧ Reps K H ds vs) ∨ Rep K H d v
theorem RepN.lay {K : PySem.W.Frag} {H : Hp} {d : D} {v : V} (h : RepN K H d v) : d.canLay0 = true := by
  rcases h with ⟨ds, a, vs, rfl, rfl, _, h⟩ | h
  · simpa [PyData.canLay0] using h.lay
  · exact h.lay
theorem RepN.list {K : PySem.W.Frag} {H : Hp} {ds : List D} {v : V} (h : RepN K H (.list ds) v) : ∃ a vs, v = .ref a ∧ SqL K H a vs ∧ Reps K H ds vs := by
  rcases h with ⟨ds', a, vs, e, rfl, q, h⟩ | ⟨a, vs, e, q, h⟩
  · cases e; exact ⟨a, vs, rfl, .inl q, h⟩
  · exact ⟨a, vs, e, q.sq, h⟩
theorem RepN.tuple {K : PySem.W.Frag} {H : Hp} {ds : List D} {v : V} (h : RepN K H (.tuple ds) v) : ∃ a vs, v = .ref a ∧ StT K H a vs ∧ Reps K H ds vs := by
  rcases h with ⟨ds', a, vs, e, rfl, q, h⟩ | ⟨a, vs, e, q, h⟩
  · cases e
  · exact ⟨a, vs, e, q, h⟩
theorem RepN.int {K : PySem.W.Frag} {H : Hp} {i : Int} {v : V} (h : RepN K H (.int i) v) : v = .int i := by
  rcases h with ⟨ds', a, vs, e, rfl, q, h⟩ | h
  · cases e
  · exact h
theorem RepN.bool {K : PySem.W.Frag} {H : Hp} {i : Bool} {v : V} (h : RepN K H (.bool i) v) : v = .bl i := by
  rcases h with ⟨ds', a, vs, e, rfl, q, h⟩ | h
  · cases e
  · exact h
theorem RepN.none {K : PySem.W.Frag} {H : Hp} {v : V} (h : RepN K H .none v) : v = .non := by
  rcases h with ⟨ds', a, vs, e, rfl, q, h⟩ | h
  · cases e
  · exact h
theorem RepN.str {K : PySem.W.Frag} {H : Hp} {i : Str} {v : V} (h : RepN K H (.str i) v) : v = .str i ∧ PyData.strOk i = true := by
  rcases h with ⟨ds', a, vs, e, rfl, q, h⟩ | h
  · cases e
  · exact h
theorem RepN.reads {X : Cx} {pins : List (Addr × Obj)} {σ : Sl} {H : Hp} {s : Shared} (I : Inv X pins σ H s) {d : D} {v : V} {u : Value} (h : RepN X.K H d v) (r : RelV v u) : ∃ as, Reads s.heap u d as := by
  rcases h with ⟨ds, a, vs, rfl, rfl, h1, h2⟩ | h
  · cases r
    obtain ⟨its, rv, ⟨o, n, e1, e2, _, e3⟩, _⟩ := I.list (.inl h1)
    obtain ⟨as, q⟩ := reps_reads I h2 rv
    exact ⟨_, .list e1 e2 e3 (by simpa using q)⟩
  · exact rep_reads I h r
/-- the data that stand in a value now -/
def dat (Γ : G) : SV → (D → Prop) → Prop
  | .fz d, k => k d
  | .ow _ (.lst ds), k => k (.list ds)
  | .bw i, k => match Γ[i]? with
    | some (.ow _ (.lst ds)) => k (.list ds)
    | some (.fz d) => k d
    | _ => False
  | _, _ => False
theorem dat_mono {Γ : G} {r : SV} {k k' : D → Prop} (h : ∀ d, k d → k' d) (q : dat Γ r k) : dat Γ r k' := by
  unfold dat at q ⊢
  split at q <;> first | exact h _ q | (split at q <;> first | exact h _ q | exact q) | exact q
theorem dat_ok {K : PySem.W.Frag} {H H0 : Hp} {σ : Sl} {Γ Γ0 : G} {r : SV} {v : V} {k : D → Prop} (g : RG K H σ Γ) (q : Res K H0 σ Γ0 H Γ v r) (h : dat Γ r k) : ∃ d, RepN K H d v ∧ k d := by
  unfold dat at h
  split at h
  · exact ⟨_, .inr q, h⟩
  · obtain ⟨rfl, ⟨vs, e, rs⟩, _, _⟩ := q
    exact ⟨_, .inl ⟨_, _, vs, rfl, rfl, .of e, rs⟩, h⟩
  · split at h
    · rename_i e
      obtain ⟨e1, vs, e2, rs⟩ := g.ow _ _ _ e
      have e3 := (show σ[_]? = some (some v) from q).symm.trans e1
      cases e3
      exact ⟨_, .inl ⟨_, _, vs, rfl, rfl, .of e2, rs⟩, h⟩
    · rename_i e
      obtain ⟨u, e1, rs⟩ := g.fz _ _ e
      have e3 := (show σ[_]? = some (some v) from q).symm.trans e1
      cases e3
      exact ⟨_, .inr rs, h⟩
    · exact h.elim
  · exact h.elim

/-! ### what grows alone -/
theorem RG.imm {K : PySem.W.Frag} {H H' : Hp} {σ : Sl} {Γ : G} (g : RG K H σ Γ) (e : Same H H') : RG K H' σ Γ := by
  have i : Imm H H' := fun a u h _ => e a u h
  refine ⟨g.len, fun j d q => ?_, fun j p o q => ?_, g.raw, g.one⟩
  · obtain ⟨v, h1, h2⟩ := g.fz j d q
    exact ⟨v, h1, h2.imm i⟩
  · obtain ⟨h1, h2⟩ := g.ow j p o q
    exact ⟨h1, h2.keep (fun u z => e _ _ z) i⟩
theorem Aft.same {K : PySem.W.Frag} {H H' : Hp} {σ : Sl} {Γ : G} (g : RG K H σ Γ) (e : Same H H') : Aft K H Γ H' σ Γ := ⟨fun a u h _ => e a u h, g.imm e, fun _ q => .inl q⟩
/-- what an operation gives: data, or a new object -/
inductive R where
  | dat (d : D)
  | new (o : O)
def RRes (K : PySem.W.Frag) (H H' : Hp) (w : V) : R → Prop
  | .dat d => Rep K H' d w
  | .new o => ∃ p, w = .ref p ∧ H p = none ∧ OwnOk K H' p o
def rq (Γ : G) (Q : SV → G → Prop) : R → Prop
  | .dat d => Q (.fz d) Γ
  | .new o => ∀ p, Q (.ow p o) Γ
theorem rq_mono {Γ : G} {Q Q' : SV → G → Prop} (h : ∀ r Γ', Q r Γ' → Q' r Γ') {z : R} (q : rq Γ Q z) : rq Γ Q' z := by
  cases z with
  | dat d => exact h _ _ q
  | new o => exact fun p => h _ _ (q p)
theorem rq_ok {K : PySem.W.Frag} {H H1 H2 : Hp} {σ : Sl} {Γ Γ1 : G} {Q : VK} (g0 : RG K H σ Γ) (a : Aft K H Γ H1 σ Γ1) {z : R}
    (h : rq Γ1 (fun r Γ' => ∀ v H', Aft K H Γ H' σ Γ' → Res K H σ Γ H' Γ' v r → Q v H') z) {w : V} (e : Same H1 H2) (q : RRes K H1 H2 w z) : Q w H2 := by
  have a2 := a.trans g0 (Aft.same a.rg e)
  cases z with
  | dat d => exact h w H2 a2 q
  | new o =>
    obtain ⟨p, rfl, n, ok⟩ := q
    refine h p (.ref p) H2 a2 ⟨rfl, ok, fun z => a.rg.there z n, a.fresh (.inr n)⟩

/-! ### two ways -/
/-- by a truth value (a structure: an evaluation stops here) -/
structure Br (k : Bool) (A B : Prop) : Prop where
  yes : k = true → A
  no : k = false → B
theorem br_iff {k : Bool} {A B : Prop} : Br k A B = if k = true then A else B := by
  apply propext
  cases k with
  | true => exact ⟨fun h => h.yes rfl, fun h => ⟨fun _ => h, fun z => (by cases z)⟩⟩
  | false => exact ⟨fun h => h.no rfl, fun h => ⟨fun z => (by cases z), fun _ => h⟩⟩
theorem Br.t {A B : Prop} (h : A) : Br true A B := ⟨fun _ => h, fun z => (by cases z)⟩
theorem Br.f {A B : Prop} (h : B) : Br false A B := ⟨fun z => (by cases z), fun _ => h⟩
/-! ### operators -/
abbrev G2 := D → D → (R → Prop) → Prop
structure OpD (X : Cx) (f : Value → Value → Sem Value) (g : G2) : Prop where
  ok : ∃ r : R2, OpR X f r ∧ ∀ (H : Hp) (d e : D) (v u : V) (Q : VK), RepN X.K H d v → RepN X.K H e u → g d e (fun z => ∀ w H', Same H H' → RRes X.K H H' w z → Q w H') → r v u H Q
  mono : ∀ d e (k k' : R → Prop), (∀ z, k z → k' z) → g d e k → g d e k'
def td2 (g : G2) (ta tb : TD) : TD := fun Γ Q => ta Γ fun x Γ1 => tb Γ1 fun y Γ2 => dat Γ2 x fun d => dat Γ2 y fun e => g d e (rq Γ2 Q)
theorem td2_mono {X : Cx} {f : Value → Value → Sem Value} {g : G2} (h : OpD X f g) {ta tb : TD} (ma : Mono ta) (mb : Mono tb) : Mono (td2 g ta tb) := fun Γ Q Q' hq =>
  ma _ _ _ fun x Γ1 => mb _ _ _ fun y Γ2 => dat_mono fun d => dat_mono fun e => h.mono d e _ _ fun z => rq_mono hq
theorem td2_ok {X : Cx} {f : Value → Value → Sem Value} {g : G2} (h : OpD X f g) {r : R2}
    (hr : ∀ (H : Hp) (d e : D) (v u : V) (Q : VK), RepN X.K H d v → RepN X.K H e u → g d e (fun z => ∀ w H', Same H H' → RRes X.K H H' w z → Q w H') → r v u H Q) {ta tb : TD} (ma : Mono ta) (mb : Mono tb) {σ : Sl} {H : Hp} {Q : VK} (q : lift X.K (td2 g ta tb) σ H Q) :
    tOp r (lift X.K ta) (lift X.K tb) σ H Q := by
  obtain ⟨Γ, g0, q⟩ := q
  refine ⟨Γ, g0, ma _ _ _ (fun x Γ1 q1 => ?_) q⟩
  intro v H1 a1 r1
  refine ⟨Γ1, a1.rg, mb _ _ _ (fun y Γ2 q2 => ?_) q1⟩
  intro u H2 a2 r2
  have a12 := a1.trans g0 a2
  obtain ⟨d, nd, q2⟩ := dat_ok a2.rg (r1.later g0 a1.rg a2) q2
  obtain ⟨e, ne, q2⟩ := dat_ok a2.rg r2 q2
  refine hr H2 d e v u Q nd ne (h.mono _ _ _ _ (fun z qz => ?_) q2)
  intro w H' sm rr
  exact rq_ok g0 a12 qz sm rr
section
variable {X : Cx} {a b c : Expr} {ta tb tc : TD} {pos : Pos} {g : G2}
theorem pd_op {op : Operator} (h : OpD X (binaryOp op) g) (ha : PD X a ta) (hb : PD X b tb) : PD X (.BinOp a op b pos) (td2 g ta tb) := by
  obtain ⟨r, ho, hr⟩ := h.ok
  exact ⟨PE.imp (pe_op ho ha.run hb.run) fun σ H Q q => td2_ok h hr ha.mono hb.mono q, td2_mono h ha.mono hb.mono⟩
theorem pd_cmp {op : CmpOp} (h : OpD X (compareOp op) g) (ha : PD X a ta) (hb : PD X b tb) (hm : behindInMarks op b = false := by first | rfl | exact nomark _) : PD X (.Compare a [op] [b] pos) (td2 g ta tb) := by
  obtain ⟨r, ho, hr⟩ := h.ok
  exact ⟨PE.imp (pe_cmpR ho ha.run hb.run hm) fun σ H Q q => td2_ok h hr ha.mono hb.mono q, td2_mono h ha.mono hb.mono⟩
/-- a bool's value as a test -/
def tdB (t : TD) : TB := fun Γ Q => t Γ fun r Γ' => match r with | .fz (.bool k) => Q k Γ' | _ => False
theorem tdB_mono {t : TD} (m : Mono t) : MonoB (tdB t) := fun Γ Q Q' h => m _ _ _ fun r Γ' q => by
  split at q
  · exact h _ _ q
  · exact q
theorem tdB_ok {K : PySem.W.Frag} {t : TD} (m : Mono t) {σ : Sl} {H : Hp} {Q : Bool → Hp → Prop} (q : liftB K (tdB t) σ H Q) : tTest (lift K t) σ H Q := by
  obtain ⟨Γ, g0, q⟩ := q
  refine ⟨Γ, g0, m _ _ _ (fun r Γ' q => ?_) q⟩
  intro v H' a rs
  split at q
  · exact ⟨_, rs, q H' a⟩
  · exact q.elim
theorem tTest_imp {t t' : TE} (hi : ∀ σ H Q, t' σ H Q → t σ H Q) {σ : Sl} {H : Hp} {Q : Bool → Hp → Prop} (q : tTest t' σ H Q) : tTest t σ H Q := hi _ _ _ q
theorem pb_cmp {op : CmpOp} (h : OpD X (compareOp op) g) (ha : PD X a ta) (hb : PD X b tb) (hm : behindInMarks op b = false := by first | rfl | exact nomark _) : PB X (.Compare a [op] [b] pos) (tdB (td2 g ta tb)) := by
  obtain ⟨r, ho, hr⟩ := h.ok
  exact ⟨PT.imp (pt_cmpR ho ha.run hb.run hm) fun σ H Q q => tTest_imp (fun _ _ _ => td2_ok h hr ha.mono hb.mono) (tdB_ok (td2_mono h ha.mono hb.mono) q), tdB_mono (td2_mono h ha.mono hb.mono)⟩
/-- an expression that gives a bool, as a test -/
theorem pb_val {e : Expr} {t : TD} (h : PD X e t) (he : ∀ whole, isTrue e X.env whole = (do let v ← whole; standAt e.pos; holding [v] (truthy v)) := by intro _; rfl) : PB X e (tdB t) :=
  ⟨PT.imp (pt_val h.run he) fun σ H Q q => tdB_ok h.mono q, tdB_mono h.mono⟩
end
end DL
/-! DL2: the operators one by one; names, constants, and, or, not, if; displays; subscripts; slices; calls of built-ins. -/
namespace DL
open PySem PySem.Spec PyProof.Rows L2

/-! ### operators -/
theorem same_refl (H : Hp) : Same H H := fun _ _ z => z
theorem same_upd {H : Hp} {p : Addr} {o : HO} (h : H p = none) : Same H (upd H p o) := fun b x e => by
  rw [upd_ne (ne_of_none e h)]
  exact e
theorem imm_same {H H' : Hp} (h : Same H H') : Imm H H' := fun a u e _ => h a u e
def gI2 (C : Int → Int → Prop) (f : Int → Int → D) : G2 := fun d e k => match d, e with
  | .int i, .int j => C i j ∧ k (.dat (f i j))
  | _, _ => False
theorem gI2_mono {C : Int → Int → Prop} {f : Int → Int → D} : ∀ d e (k k' : R → Prop), (∀ z, k z → k' z) → gI2 C f d e k → gI2 C f d e k' := fun d e k k' h q => by
  unfold gI2 at q ⊢
  split at q
  · exact ⟨q.1, h _ q.2⟩
  · exact q
theorem opd_int {X : Cx} {f : Value → Value → Sem Value} {C : Int → Int → Prop} {g : Int → Int → V} {g' : Int → Int → D} (h : OpR X f (rI C g)) (hg : ∀ i j, ∀ H, Rep X.K H (g' i j) (g i j)) : OpD X f (gI2 C g') := by
  refine ⟨⟨_, h, fun H d e v u Q nd ne q => ?_⟩, gI2_mono⟩
  unfold gI2 at q
  split at q
  · rw [nd.int, ne.int]
    exact ⟨_, _, rfl, rfl, q.1, q.2 _ H (same_refl H) (hg _ _ _)⟩
  · exact q.elim
theorem rI0_rI {X : Cx} {f : Value → Value → Sem Value} {C : Int → Int → Prop} {g : Int → Int → V} (h : OpR X f (rI0 g)) : OpR X f (rI C g) := fun pins s σ H x y v u Q I r1 r2 ⟨i, j, e1, e2, _, q⟩ => h pins s σ H x y v u Q I r1 r2 ⟨i, j, e1, e2, q⟩
abbrev T2 : Int → Int → Prop := fun _ _ => True
abbrev gSub : G2 := gI2 T2 fun i j => .int (i - j)
abbrev gMod : G2 := gI2 (fun _ j => 0 < j) fun i j => .int (i % j)
abbrev gDiv : G2 := gI2 CDiv fun i j => .int (i / j)
abbrev gPow : G2 := gI2 CPow fun i j => .int (i ^ j.toNat)
abbrev gLt : G2 := gI2 T2 fun i j => .bool (decide (i < j))
abbrev gLe : G2 := gI2 T2 fun i j => .bool (decide (i ≤ j))
abbrev gGt : G2 := gI2 T2 fun i j => .bool (decide (j < i))
abbrev gGe : G2 := gI2 T2 fun i j => .bool (decide (j ≤ i))
section
variable {X : Cx}
theorem od_sub : OpD X (binaryOp .Sub) gSub := opd_int (rI0_rI op_sub) fun _ _ _ => rfl
/-- a text some times -/
def repS (x : Str) (n : Nat) : Str := ⟨(List.replicate n x.cps.toList).flatten.toArray⟩
theorem rep_fold : ∀ (n : Nat) (a : Array Nat) (acc : Array Nat), (List.replicate n a).foldl (· ++ ·) acc = acc ++ (List.replicate n a.toList).flatten.toArray
  | 0, _, acc => by simp
  | n + 1, a, acc => by
    rw [List.replicate_succ, List.foldl_cons, rep_fold n a (acc ++ a), List.replicate_succ, List.flatten_cons]
    apply Array.toList_inj.mp
    simp
theorem repS_len (x : Str) (n : Nat) : (repS x n).length = n * x.length := by
  show ((List.replicate n x.cps.toList).flatten.toArray).size = n * x.cps.size
  rw [List.size_toArray, List.length_flatten, List.map_replicate, List.sum_replicate_nat, Array.length_toList]
def rMulS : R2 := fun x y H Q => ∃ z n, x = .str z ∧ y = .int n ∧ (1 ≤ z.length ∧ z.length ≤ 1000 ∧ 2 ≤ n ∧ n ≤ 1000) ∧ Q (.str (repS z n.toNat)) H
theorem op_mulS : OpR X (binaryOp .Mult) rMulS := by
  intro pins s σ H x y v u Q I rx ry h
  obtain ⟨z, n, rfl, rfl, ⟨h1, h2, h3, h4⟩, q⟩ := h
  obtain ⟨t, rfl⟩ := rx
  obtain ⟨t', rfl⟩ := ry
  have hm : z.length * n.toNat ≤ 1000 * 1000 := Nat.mul_le_mul h2 (by omega)
  have hs : z.length * n.toNat ≤ sizeLine := Nat.le_trans hm (by decide)
  refine PySem.P.mul_str ?_ (fun _ _ => ?_) (fun _ _ => ?_) ?_
  · rw [Bool.or_eq_false_iff, decide_eq_false_iff_not, decide_eq_false_iff_not]
    omega
  · have h5 : (2 ^ 63 - 1 : Int) / n ≥ (2 ^ 63 - 1 : Int) / 1000 := by
      have e1 : n * ((2 ^ 63 - 1 : Int) / 1000) ≤ 1000 * ((2 ^ 63 - 1 : Int) / 1000) := Int.mul_le_mul_of_nonneg_right h4 (by decide)
      exact Int.le_ediv_of_mul_le (by omega) (by rw [Int.mul_comm]; exact Int.le_trans e1 (by decide))
    have h6 : ((2 ^ 63 - 1 : Int) / 1000) ≥ 1000 := by decide
    omega
  · unfold PySem.Builtin.Str.tooLong
    rw [decide_eq_false_iff_not]
    omega
  · rw [if_neg (by omega), if_neg (by simp; omega)]
    have e : (⟨(List.replicate n.toNat z.cps).foldl (· ++ ·) #[]⟩ : Str) = repS z n.toNat := by
      unfold repS
      rw [rep_fold]
      simp
    rw [e]
    refine ⟨?_, ?_⟩
    · rw [repS_len]
      rw [Nat.mul_comm]
      exact hs
    · exact ⟨.str _, H, I.tok _, ⟨_, rfl⟩, q⟩
theorem strOk_rep {z : Str} {n : Nat} (h : PyData.strOk z = true) : PyData.strOk (repS z n) = true := by
  unfold PyData.strOk at h ⊢
  rw [← Array.all_toList, List.all_eq_true] at h ⊢
  intro c hc
  simp only [repS, List.mem_flatten, List.mem_replicate] at hc
  obtain ⟨l, ⟨_, rfl⟩, hc⟩ := hc
  exact h c hc
def gMul : G2 := fun d e k => match d, e with
  | .int i, .int j => CMul i j ∧ k (.dat (.int (i * j)))
  | .str z, .int n => (1 ≤ z.length ∧ z.length ≤ 1000 ∧ 2 ≤ n ∧ n ≤ 1000) ∧ k (.dat (.str (repS z n.toNat)))
  | _, _ => False
theorem od_mul : OpD X (binaryOp .Mult) gMul := by
  refine ⟨⟨_, op_mul.or op_mulS, fun H d e v u Q nd ne q => ?_⟩, fun d e k k' h q => ?_⟩
  · unfold gMul at q
    split at q
    · rw [nd.int, ne.int]
      exact .inl ⟨_, _, rfl, rfl, q.1, q.2 _ H (same_refl H) rfl⟩
    · rw [nd.str.1, ne.int]
      exact .inr ⟨_, _, rfl, rfl, q.1, q.2 _ H (same_refl H) ⟨rfl, strOk_rep nd.str.2⟩⟩
    · exact q.elim
  · unfold gMul at q ⊢
    split at q <;> first | exact ⟨q.1, h _ q.2⟩ | exact q
theorem od_mod : OpD X (binaryOp .Mod) gMod := opd_int op_mod fun _ _ _ => rfl
theorem od_div : OpD X (binaryOp .FloorDiv) gDiv := opd_int op_fdiv fun _ _ _ => rfl
theorem od_pow : OpD X (binaryOp .Pow) gPow := opd_int op_pow fun _ _ _ => rfl
theorem od_lt : OpD X (compareOp .Lt) gLt := opd_int (rI0_rI op_lt) fun _ _ _ => rfl
theorem od_le : OpD X (compareOp .LtE) gLe := opd_int (rI0_rI op_le) fun _ _ _ => rfl
theorem od_gt : OpD X (compareOp .Gt) gGt := opd_int (rI0_rI op_gt) fun _ _ _ => rfl
theorem od_ge : OpD X (compareOp .GtE) gGe := opd_int (rI0_rI op_ge) fun _ _ _ => rfl
/-- l + r of two lists -/
def rCatL (K : PySem.W.Frag) : R2 := fun x y H Q => ∃ l b xs zs, x = .ref l ∧ y = .ref b ∧ SqL K H l xs ∧ SqL K H b zs ∧ xs.length + zs.length ≤ sizeLine ∧ ∀ p, H p = none → Q (.ref p) (upd H p (.lst (xs ++ zs)))
theorem op_catL : OpR X (binaryOp .Add) (rCatL X.K) := by
  intro pins s σ H x y v u Q I rx ry h
  obtain ⟨l, b, xs, zs, rfl, rfl, h1, h2, hz, q⟩ := h
  cases rx
  cases ry
  obtain ⟨i1, r1, ⟨⟨cls, dd, data, sl⟩, n1, e1, c1, _, d1⟩, _⟩ := I.list h1
  obtain ⟨i2, r2, ⟨⟨cls2, dd2, data2, sl2⟩, n2, e2, c2, _, d2⟩, _⟩ := I.list h2
  have k1 := r1.length
  have k2 := r2.length
  simp only at c1 d1 c2 d2
  subst c1 d1 c2 d2
  refine concat_meets ⟨_, e1, rfl⟩ ⟨_, e2, rfl⟩ noFill_list_add seq_list_add PySem.F.slot_list_add PySem.F.entry_list_add (PySem.F.args_list_add_2 _ _) (list_addW l b i1.toArray i2.toArray n1 n2 dd dd2 sl sl2 (by simp only [List.size_toArray]; omega)) ⟨e1, e2, ?_⟩
  rw [show i1.toArray ++ i2.toArray = (i1 ++ i2).toArray by simp]
  exact ⟨.ref _, _, I.lnew (t' := s.toks) (r1.append r2) (by simp only [List.length_append]; exact hz), rfl, q _ I.fresh⟩
theorem strOk_append {x y : Str} (hx : PyData.strOk x = true) (hy : PyData.strOk y = true) : PyData.strOk (x ++ y) = true := by
  unfold PyData.strOk at *
  show (x.cps ++ y.cps).all _ = true
  rw [Array.all_append, hx, hy]
  rfl
/-- +: ints, texts, tuples, lists -/
def gAdd : G2 := fun d e k => match d, e with
  | .int i, .int j => k (.dat (.int (i + j)))
  | .str x, .str y => x.length + y.length ≤ sizeLine ∧ k (.dat (.str (x ++ y)))
  | .tuple xs, .tuple ys => xs.length + ys.length ≤ sizeLine ∧ k (.dat (.tuple (xs ++ ys)))
  | .list xs, .list ys => xs.length + ys.length ≤ sizeLine ∧ k (.new (.lst (xs ++ ys)))
  | _, _ => False
theorem od_add : OpD X (binaryOp .Add) gAdd := by
  refine ⟨⟨_, (((rI0_rI (C := T2) op_add).or op_add_str).or op_catA).or op_catL, fun H d e v u Q nd ne q => ?_⟩, fun d e k k' h q => ?_⟩
  · unfold gAdd at q
    split at q
    · rw [nd.int, ne.int]
      exact .inl (.inl (.inl ⟨_, _, rfl, rfl, trivial, q _ H (same_refl H) rfl⟩))
    · rw [nd.str.1, ne.str.1]
      exact .inl (.inl (.inr ⟨_, _, rfl, rfl, q.1, q.2 _ H (same_refl H) ⟨rfl, strOk_append nd.str.2 ne.str.2⟩⟩))
    · obtain ⟨a, vs, rfl, h1, h2⟩ := nd.tuple
      obtain ⟨b, us, rfl, h3, h4⟩ := ne.tuple
      refine .inl (.inr ⟨a, b, vs, us, rfl, rfl, h1.sq, h3.sq, by rw [h2.len, h4.len]; exact q.1, fun z => ?_, fun z1 z => ?_, fun z1 z2 p hp => ?_⟩)
      · subst z
        refine q.2 _ H (same_refl H) ⟨b, us, rfl, h3, ?_⟩
        simpa using h2.append h4
      · subst z
        refine q.2 _ H (same_refl H) ⟨a, vs, rfl, h1, ?_⟩
        simpa using h2.append h4
      · exact q.2 _ _ (same_upd hp) ⟨p, _, rfl, .inl upd_same, (h2.append h4).imm (imm_same (same_upd hp))⟩
    · obtain ⟨a, vs, rfl, h1, h2⟩ := nd.list
      obtain ⟨b, us, rfl, h3, h4⟩ := ne.list
      refine .inr ⟨a, b, vs, us, rfl, rfl, h1, h3, by rw [h2.len, h4.len]; exact q.1, fun p hp => ?_⟩
      exact q.2 _ _ (same_upd hp) ⟨p, rfl, hp, _, upd_same, (h2.append h4).imm (imm_same (same_upd hp))⟩
    · exact q.elim
  · unfold gAdd at q ⊢
    split at q <;> first | exact h _ q | exact ⟨q.1, h _ q.2⟩ | exact q
/-! ### == -/
/-- data of small depth, or one of them is -/
def shal (d e : D) : Prop := d.depth ≤ 60 ∨ e.depth ≤ 60
def gEq : G2 := fun d e k => shal d e ∧ k (.dat (.bool (PyData.eqv d e)))
def gNe : G2 := fun d e k => shal d e ∧ k (.dat (.bool (!PyData.eqv d e)))
theorem shal_min {d e : D} {n : Nat} (h : shal d e) (hu : n + 64 < cLine) : n + min d.depth e.depth < cLine := by
  have h1 := Nat.min_le_left d.depth e.depth
  have h2 := Nat.min_le_right d.depth e.depth
  rcases h with h | h <;> omega
def rEqN (K : PySem.W.Frag) : R2 := fun x y H Q => ∃ d e, RepN K H d x ∧ RepN K H e y ∧ shal d e ∧ Q (.bl (PyData.eqv d e)) H
def rNeN (K : PySem.W.Frag) : R2 := fun x y H Q => ∃ d e, RepN K H d x ∧ RepN K H e y ∧ shal d e ∧ Q (.bl (!PyData.eqv d e)) H
theorem op_eqN (hu : X.A.units + 64 < cLine) : OpR X (compareOp .Eq) (rEqN X.K) := by
  intro pins s σ H x y v u Q I rx ry h
  obtain ⟨d, e, hd, he, sh, q⟩ := h
  obtain ⟨as, ra⟩ := hd.reads I rx
  obtain ⟨bs, rb⟩ := he.reads I ry
  exact SeqAt.compareEq_reads ra rb hd.lay he.lay (shal_min sh hu) ⟨.bl _, H, I, rfl, q⟩
theorem op_neN (hu : X.A.units + 64 < cLine) : OpR X (compareOp .NotEq) (rNeN X.K) := by
  intro pins s σ H x y v u Q I rx ry h
  obtain ⟨d, e, hd, he, sh, q⟩ := h
  obtain ⟨as, ra⟩ := hd.reads I rx
  obtain ⟨bs, rb⟩ := he.reads I ry
  exact SeqAt.compareNe_reads ra rb hd.lay he.lay (shal_min sh hu) ⟨.bl _, H, I, rfl, q⟩
theorem od_eq (hu : X.A.units + 64 < cLine) : OpD X (compareOp .Eq) gEq :=
  ⟨⟨_, op_eqN hu, fun H d e v u Q nd ne q => ⟨d, e, nd, ne, q.1, q.2 _ H (same_refl H) rfl⟩⟩, fun d e k k' h q => ⟨q.1, h _ q.2⟩⟩
theorem od_ne (hu : X.A.units + 64 < cLine) : OpD X (compareOp .NotEq) gNe :=
  ⟨⟨_, op_neN hu, fun H d e v u Q nd ne q => ⟨d, e, nd, ne, q.1, q.2 _ H (same_refl H) rfl⟩⟩, fun d e k k' h q => ⟨q.1, h _ q.2⟩⟩
/-! ### in -/
def flat : D → Bool
  | .none => true
  | .bool _ => true
  | .int _ => true
  | .str _ => true
  | _ => false
def isIn (d : D) (ds : List D) : Bool := ds.any fun z => PyData.eqv z d
theorem RepN.rep {K : PySem.W.Frag} {H : Hp} {d : D} {v : V} (h : RepN K H d v) (f : flat d = true) : Rep K H d v := by
  rcases h with ⟨ds, a, vs, rfl, rfl, _, h⟩ | h
  · cases f
  · exact h
theorem Rep.flatV {K : PySem.W.Frag} {H : Hp} : ∀ {d : D} {v : V}, Rep K H d v → flat d = true → L2.flatV v = true
  | .none, _, h, _ => by rw [show _ = V.non from h]; rfl
  | .bool _, _, h, _ => by rw [show _ = V.bl _ from h]; rfl
  | .int _, _, h, _ => by rw [show _ = V.int _ from h]; rfl
  | .str _, _, h, _ => by rw [show _ = V.str _ from h.1]; rfl
  | .tuple _, _, _, f => by cases f
  | .list _, _, _, f => by cases f
  | .dict _, _, _, f => by cases f
theorem Rep.eqV {K : PySem.W.Frag} {H : Hp} {d e : D} {v u : V} (h : Rep K H d v) (k : Rep K H e u) (fd : flat d = true) (fe : flat e = true) : L2.eqV v u = PyData.eqv d e := by
  cases d <;> cases e <;> first | (cases fd; done) | (cases fe; done) | skip
  all_goals (simp only [Rep] at h k; first | obtain ⟨rfl, _⟩ := h | subst h)
  all_goals (first | obtain ⟨rfl, _⟩ := k | subst k)
  all_goals simp [L2.eqV, PyData.eqv]
theorem Reps.flatV {K : PySem.W.Frag} {H : Hp} : ∀ {ds : List D} {vs : List V}, Reps K H ds vs → ds.all flat = true → vs.all L2.flatV = true
  | [], _, h, _ => by rw [show _ = [] from h]; rfl
  | d :: ds, _, h, f => by
    obtain ⟨v, r, rfl, h1, h2⟩ := h
    rw [List.all_cons, Bool.and_eq_true] at f ⊢
    exact ⟨h1.flatV f.1, Reps.flatV h2 f.2⟩
theorem Reps.inV {K : PySem.W.Frag} {H : Hp} {d : D} {v : V} (h : Rep K H d v) (fd : flat d = true) : ∀ {ds : List D} {vs : List V}, Reps K H ds vs → ds.all flat = true → L2.inV v vs = isIn d ds
  | [], _, q, _ => by rw [show _ = [] from q]; rfl
  | e :: ds, _, q, f => by
    obtain ⟨u, r, rfl, h1, h2⟩ := q
    rw [List.all_cons, Bool.and_eq_true] at f
    show (L2.eqV u v || L2.inV v r) = (PyData.eqv e d || isIn d ds)
    rw [h1.eqV h f.1 fd, Reps.inV h fd h2 f.2]
def gIn (f : Bool → Bool) : G2 := fun d e k => match e with
  | .tuple ds => flat d = true ∧ ds.all flat = true ∧ k (.dat (.bool (f (isIn d ds))))
  | .list ds => flat d = true ∧ ds.all flat = true ∧ k (.dat (.bool (f (isIn d ds))))
  | .str y => (match d with
    | .str x => ∃ c, x = ⟨#[c]⟩ ∧ k (.dat (.bool (f (decide (c ∈ y.cps.toList)))))
    | _ => False)
  | _ => False
theorem gIn_mono {f : Bool → Bool} : ∀ d e (k k' : R → Prop), (∀ z, k z → k' z) → gIn f d e k → gIn f d e k' := fun d e k k' h q => by
  unfold gIn at q ⊢
  split at q
  · exact ⟨q.1, q.2.1, h _ q.2.2⟩
  · exact ⟨q.1, q.2.1, h _ q.2.2⟩
  · split at q
    · obtain ⟨c, e, q⟩ := q
      exact ⟨c, e, h _ q⟩
    · exact q
  · exact q
theorem od_inX {f : Value → Value → Sem Value} (neg : Bool) (h1 : OpR X f (rIn X.K neg)) (h2 : OpR X f (fun x y H Q => ∃ (c : Nat) (z : Str), x = .str ⟨#[c]⟩ ∧ y = .str z ∧ Q (.bl (if neg then !decide (c ∈ z.cps.toList) else decide (c ∈ z.cps.toList))) H)) :
    OpD X f (gIn fun b => if neg then !b else b) := by
  refine ⟨⟨_, h1.or h2, fun H d e v u Q nd ne q => ?_⟩, gIn_mono⟩
  unfold gIn at q
  split at q
  · obtain ⟨a, vs, rfl, q1, q2⟩ := ne.tuple
    refine .inl ⟨a, vs, rfl, .inr q1.sq, (nd.rep q.1).flatV q.1, q2.flatV q.2.1, ?_⟩
    rw [q2.inV (nd.rep q.1) q.1 q.2.1]
    exact q.2.2 _ H (same_refl H) (by cases neg <;> rfl)
  · obtain ⟨a, vs, rfl, q1, q2⟩ := ne.list
    refine .inl ⟨a, vs, rfl, .inl q1, (nd.rep q.1).flatV q.1, q2.flatV q.2.1, ?_⟩
    rw [q2.inV (nd.rep q.1) q.1 q.2.1]
    exact q.2.2 _ H (same_refl H) (by cases neg <;> rfl)
  · split at q
    · obtain ⟨c, rfl, q⟩ := q
      refine .inr ⟨c, _, nd.str.1, ne.str.1, q _ H (same_refl H) (by cases neg <;> rfl)⟩
    · exact q.elim
  · exact q.elim
abbrev gInT : G2 := gIn fun b => b
abbrev gNotIn : G2 := gIn fun b => !b
theorem od_in : OpD X (compareOp .In) gInT := od_inX false op_in_seq op_in_sign
theorem od_notIn : OpD X (compareOp .NotIn) gNotIn := od_inX true op_notIn_seq op_notIn_sign
/-! ### is None -/
def isNone : D → Bool
  | .none => true
  | _ => false
theorem RepN.isNone {K : PySem.W.Frag} {H : Hp} {d : D} {v : V} (h : RepN K H d v) : decide (v = .non) = isNone d := by
  rcases h with ⟨ds, a, vs, rfl, rfl, _, h⟩ | h
  · rfl
  · cases d <;> simp only [Rep] at h <;> first | (subst h; rfl) | (obtain ⟨rfl, _⟩ := h; rfl) | (obtain ⟨_, _, rfl, _⟩ := h; rfl) | exact h.elim
def gIs (f : Bool → Bool) : G2 := fun d e k => match e with
  | .none => k (.dat (.bool (f (isNone d))))
  | _ => False
theorem gIs_mono {f : Bool → Bool} : ∀ d e (k k' : R → Prop), (∀ z, k z → k' z) → gIs f d e k → gIs f d e k' := fun d e k k' h q => by
  unfold gIs at q ⊢
  split at q
  · exact h _ q
  · exact q
theorem od_is : OpD X (compareOp .Is) (gIs fun b => b) := by
  refine ⟨⟨_, op_isN, fun H d e v u Q nd ne q => ?_⟩, gIs_mono⟩
  unfold gIs at q
  split at q
  · refine ⟨ne.none, ?_⟩
    rw [nd.isNone]
    exact q _ H (same_refl H) rfl
  · exact q.elim
theorem od_isNot : OpD X (compareOp .IsNot) (gIs fun b => !b) := by
  refine ⟨⟨_, op_notN, fun H d e v u Q nd ne q => ?_⟩, gIs_mono⟩
  unfold gIs at q
  split at q
  · refine ⟨ne.none, ?_⟩
    rw [nd.isNone]
    exact q _ H (same_refl H) rfl
  · exact q.elim
end
end DL
/-! DL3: names, constants, not, and, or, if, chains; freezing; arguments, displays; subscripts, slices; calls of built-ins and of defs. -/
namespace DL
open PySem PySem.Spec PyProof.Rows L2
section
variable {X : Cx} {a b c e : Expr} {ta tb tc t : TD} {pos : Pos}

/-! ### names, constants -/
def tdVar (i : Nat) : TD := fun Γ Q => match Γ[i]? with
  | some (.fz d) => Q (.fz d) Γ
  | some (.ow _ _) => Q (.bw i) Γ
  | some (.raw v) => Q (.raw v) Γ
  | _ => False
theorem tdVar_mono (i : Nat) : Mono (tdVar i) := fun Γ Q Q' h q => by
  unfold tdVar at q ⊢
  split at q <;> first | exact h _ _ q | exact q
theorem pd_of_pe {e : Expr} {i : Nat} (h : PE X e (tVar i)) : PD X e (tdVar i) := by
  refine ⟨PE.imp h fun σ H Q ⟨Γ, g, q⟩ => ?_, tdVar_mono i⟩
  unfold tdVar at q
  split at q
  · rename_i d e
    obtain ⟨v, e1, r⟩ := g.fz _ _ e
    exact ⟨v, e1, q v H (Aft.refl g) r⟩
  · rename_i p o e
    obtain ⟨e1, r⟩ := g.ow _ _ _ e
    exact ⟨_, e1, q _ H (Aft.refl g) e1⟩
  · rename_i v e
    exact ⟨v, g.raw _ _ e, q v H (Aft.refl g) rfl⟩
  · exact q.elim
theorem pdv (i : Nat) {x : Str} {pos : Pos} (hN : X.N[i]? = some x := by rfl) (hv : Vis X.env.scope x := by first | exact Or.inl rfl | exact Or.inr (Or.inl rfl) | exact Or.inr (Or.inr rfl)) (hd : (x == ("__debug__" : Str)) = false := by decide)
    (hcd : (x == ("__classdict__" : Str)) = false := by decide) : PD X (.Name x pos) (tdVar i) := pd_of_pe (pe_var hN hv hd hcd)
def tdC (d : D) : TD := fun Γ Q => Q (.fz d) Γ
theorem tdC_mono (d : D) : Mono (tdC d) := fun Γ Q Q' h q => h _ _ q
theorem pd_const {v : V} {d : D} (h : PE X e (tC v)) (r : ∀ H, Rep X.K H d v) : PD X e (tdC d) := ⟨PE.imp h fun σ H Q ⟨Γ, g, q⟩ => q v H (Aft.refl g) (r H), tdC_mono d⟩
theorem pd_int {i j pos} : PD X (.Constant (.int i) j pos) (tdC (.int i)) := pd_const pe_int fun _ => rfl
theorem pd_bl {b j pos} : PD X (.Constant (.bool b) j pos) (tdC (.bool b)) := pd_const pe_bl fun _ => rfl
theorem pd_non {j pos} : PD X (.Constant .none j pos) (tdC .none) := pd_const pe_non fun _ => rfl
theorem pd_str {x j pos} (h : PyData.strOk x = true := by decide +kernel) : PD X (.Constant (.str x) j pos) (tdC (.str x)) := pd_const pe_str fun _ => ⟨rfl, h⟩
/-- a module's constant -/
theorem pd_glob {x : Str} {v : V} {u : Value} {d : D} (hg : Gl X x) (hm : X.mg x = some u) (r : RelV v u) (rd : ∀ H, Rep X.K H d v) (hd : (x == ("__debug__" : Str)) = false := by decide) : PD X (.Name x pos) (tdC d) := pd_const (pe_glob hg hm r hd) rd
/-- -a -/
def tdNeg (ta : TD) : TD := fun Γ Q => ta Γ fun r Γ' => match r with
  | .fz (.int i) => Q (.fz (.int (-i))) Γ'
  | _ => False
theorem pd_neg (ha : PD X a ta) : PD X (.UnaryOp .USub a pos) (tdNeg ta) := by
  refine ⟨PE.imp (pe_un un_neg ha.run) fun σ H Q ⟨Γ, g, q⟩ => ⟨Γ, g, ha.mono _ _ _ (fun r Γ' q => ?_) q⟩, fun Γ Q Q' h => ha.mono _ _ _ fun r Γ' q => ?_⟩
  · intro v H' af rs
    split at q
    · exact ⟨_, rs, q _ H' af rfl⟩
    · exact q.elim
  · split at q
    · exact h _ _ q
    · exact q

/-! ### tests -/
def tbNot (t : TB) : TB := fun Γ Q => t Γ fun k Γ' => Q (!k) Γ'
def tbAnd (t u : TB) : TB := fun Γ Q => t Γ fun k Γ' => Br k (u Γ' Q) (Q false Γ')
def tbOr (t u : TB) : TB := fun Γ Q => t Γ fun k Γ' => Br k (Q true Γ') (u Γ' Q)
variable {tA tB : TB} {rest : List Expr}
theorem lift2 {K : PySem.W.Frag} {t : TB} (m : MonoB t) {σ : Sl} {H H1 : Hp} {Γ Γ1 : G} {Q : Bool → Hp → Prop} (g : RG K H σ Γ) (af : Aft K H Γ H1 σ Γ1) (q : t Γ1 fun b Γ' => ∀ H', Aft K H Γ H' σ Γ' → Q b H') : liftB K t σ H1 Q :=
  ⟨Γ1, af.rg, m _ _ _ (fun b Γ' q H' a2 => q H' (af.trans g a2)) q⟩
theorem liftE2 {K : PySem.W.Frag} {t : TD} (m : Mono t) {σ : Sl} {H H1 : Hp} {Γ Γ1 : G} {Q : VK} (g : RG K H σ Γ) (af : Aft K H Γ H1 σ Γ1) (q : t Γ1 fun r Γ' => ∀ v H', Aft K H Γ H' σ Γ' → Res K H σ Γ H' Γ' v r → Q v H') : lift K t σ H1 Q :=
  ⟨Γ1, af.rg, m _ _ _ (fun b Γ' q v H' a2 r => q v H' (af.trans g a2) (r.from af)) q⟩
theorem pb_not (ha : PB X a tA) : PB X (.UnaryOp .Not a pos) (tbNot tA) :=
  ⟨PT.imp (pt_not ha.run) fun σ H Q ⟨Γ, g, q⟩ => ⟨Γ, g, ha.mono _ _ _ (fun b Γ' q H' af => q H' af) q⟩, fun Γ Q Q' h => ha.mono _ _ _ fun k Γ' q => h _ _ q⟩
structure PBW (X : Cx) (e : Expr) (t : TB) : Prop where
  run : PW X e (liftB X.K t)
  mono : MonoB t
theorem PBW.pb {e : Expr} {t : TB} (h : PBW X e t) : PB X e t := ⟨h.run.pt, h.mono⟩
theorem PW.imp {e : Expr} {t t' : TT} (h : PW X e t) (hi : ∀ σ H Q, t' σ H Q → t σ H Q) : PW X e t' := ⟨fun wh pins s σ H Q I q => h.run wh pins s σ H Q I (hi _ _ _ q)⟩
theorem pbw_and1 (ha : PB X a tA) : PBW X (.BoolOp .And [a] pos) tA := ⟨pw_and1 ha.run, ha.mono⟩
theorem pbw_or1 (ha : PB X a tA) : PBW X (.BoolOp .Or [a] pos) tA := ⟨pw_or1 ha.run, ha.mono⟩
theorem tbAnd_mono {t u : TB} (m : MonoB t) (n : MonoB u) : MonoB (tbAnd t u) := fun Γ Q Q' h => m _ _ _ fun k Γ' q => by
  rw [br_iff] at q ⊢
  split at q
  · rename_i e; rw [if_pos e]; exact n _ _ _ h q
  · rename_i e; rw [if_neg e]; exact h _ _ q
theorem tbOr_mono {t u : TB} (m : MonoB t) (n : MonoB u) : MonoB (tbOr t u) := fun Γ Q Q' h => m _ _ _ fun k Γ' q => by
  rw [br_iff] at q ⊢
  split at q
  · rename_i e; rw [if_pos e]; exact h _ _ q
  · rename_i e; rw [if_neg e]; exact n _ _ _ h q
theorem pbw_and (ha : PB X a tA) (hb : PBW X (.BoolOp .And (b :: rest) pos) tB) : PBW X (.BoolOp .And (a :: b :: rest) pos) (tbAnd tA tB) := by
  refine ⟨PW.imp (pw_and ha.run hb.run) fun σ H Q ⟨Γ, g, q⟩ => ⟨Γ, g, ha.mono _ _ _ (fun k Γ' q => ?_) q⟩, tbAnd_mono ha.mono hb.mono⟩
  intro H' af
  rw [br_iff] at q
  split at q
  · rename_i e; rw [if_pos e]; exact lift2 hb.mono g af q
  · rename_i e; rw [if_neg e]; exact q H' af
theorem pbw_or (ha : PB X a tA) (hb : PBW X (.BoolOp .Or (b :: rest) pos) tB) : PBW X (.BoolOp .Or (a :: b :: rest) pos) (tbOr tA tB) := by
  refine ⟨PW.imp (pw_or ha.run hb.run) fun σ H Q ⟨Γ, g, q⟩ => ⟨Γ, g, ha.mono _ _ _ (fun k Γ' q => ?_) q⟩, tbOr_mono ha.mono hb.mono⟩
  intro H' af
  rw [br_iff] at q
  split at q
  · rename_i e; rw [if_pos e]; exact q H' af
  · rename_i e; rw [if_neg e]; exact lift2 hb.mono g af q
/-- .. as values (bools) -/
def tdAnd (ta tb : TD) : TD := fun Γ Q => ta Γ fun r Γ' => match r with
  | .fz (.bool k) => Br k (tb Γ' Q) (Q (.fz (.bool false)) Γ')
  | _ => False
def tdOr (ta tb : TD) : TD := fun Γ Q => ta Γ fun r Γ' => match r with
  | .fz (.bool k) => Br k (Q (.fz (.bool true)) Γ') (tb Γ' Q)
  | _ => False
def tdNot (ta : TD) : TD := fun Γ Q => ta Γ fun r Γ' => match r with
  | .fz (.bool k) => Q (.fz (.bool !k)) Γ'
  | _ => False
theorem pd_one {op} (h : PD X a ta) : PD X (.BoolOp op [a] pos) ta := ⟨pe_one h.run, h.mono⟩
theorem pd_and (ha : PD X a ta) (hb : PD X (.BoolOp .And (b :: rest) pos) tb) : PD X (.BoolOp .And (a :: b :: rest) pos) (tdAnd ta tb) := by
  refine ⟨PE.imp (pe_and ha.run hb.run) fun σ H Q ⟨Γ, g, q⟩ => ⟨Γ, g, ha.mono _ _ _ (fun r Γ' q => ?_) q⟩, fun Γ Q Q' h => ha.mono _ _ _ fun r Γ' q => ?_⟩
  · intro v H' af rs
    split at q
    · refine ⟨_, rs, ?_⟩
      rw [br_iff] at q
      split at q
      · rename_i e; rw [if_pos e]; exact liftE2 hb.mono g af q
      · rename_i e; rw [if_neg e]; exact q _ H' af rfl
    · exact q.elim
  · split at q
    · rw [br_iff] at q ⊢
      split at q
      · rename_i e; rw [if_pos e]; exact hb.mono _ _ _ h q
      · rename_i e; rw [if_neg e]; exact h _ _ q
    · exact q
theorem pd_or (ha : PD X a ta) (hb : PD X (.BoolOp .Or (b :: rest) pos) tb) : PD X (.BoolOp .Or (a :: b :: rest) pos) (tdOr ta tb) := by
  refine ⟨PE.imp (pe_or ha.run hb.run) fun σ H Q ⟨Γ, g, q⟩ => ⟨Γ, g, ha.mono _ _ _ (fun r Γ' q => ?_) q⟩, fun Γ Q Q' h => ha.mono _ _ _ fun r Γ' q => ?_⟩
  · intro v H' af rs
    split at q
    · refine ⟨_, rs, ?_⟩
      rw [br_iff] at q
      split at q
      · rename_i e; rw [if_pos e]; exact q _ H' af rfl
      · rename_i e; rw [if_neg e]; exact liftE2 hb.mono g af q
    · exact q.elim
  · split at q
    · rw [br_iff] at q ⊢
      split at q
      · rename_i e; rw [if_pos e]; exact h _ _ q
      · rename_i e; rw [if_neg e]; exact hb.mono _ _ _ h q
    · exact q
theorem pd_not (ha : PD X a ta) : PD X (.UnaryOp .Not a pos) (tdNot ta) := by
  refine ⟨PE.imp (pe_not ha.run) fun σ H Q ⟨Γ, g, q⟩ => ⟨Γ, g, ha.mono _ _ _ (fun r Γ' q => ?_) q⟩, fun Γ Q Q' h => ha.mono _ _ _ fun r Γ' q => ?_⟩
  · intro v H' af rs
    split at q
    · exact ⟨_, rs, q _ H' af rfl⟩
    · exact q.elim
  · split at q
    · exact h _ _ q
    · exact q
/-- a if c else b -/
def tdIf (t : TB) (ta tb : TD) : TD := fun Γ Q => t Γ fun k Γ' => Br k (ta Γ' Q) (tb Γ' Q)
theorem pd_ifExp (hc : PB X c tA) (ha : PD X a ta) (hb : PD X b tb) : PD X (.IfExp c a b pos) (tdIf tA ta tb) := by
  refine ⟨PE.imp (pe_ifExp hc.run ha.run hb.run) fun σ H Q ⟨Γ, g, q⟩ => ⟨Γ, g, hc.mono _ _ _ (fun k Γ' q => ?_) q⟩, fun Γ Q Q' h => hc.mono _ _ _ fun r Γ' q => ?_⟩
  · intro H' af
    rw [br_iff] at q
    split at q
    · rename_i e; rw [if_pos e]; exact liftE2 ha.mono g af q
    · rename_i e; rw [if_neg e]; exact liftE2 hb.mono g af q
  · rw [br_iff] at q ⊢
    split at q
    · rename_i e; rw [if_pos e]; exact ha.mono _ _ _ h q
    · rename_i e; rw [if_neg e]; exact hb.mono _ _ _ h q
/-- a < b < c: all data (the middle one is asked twice) -/
def tdChain (g g' : G2) (ta tb tc : TD) : TD := fun Γ Q => ta Γ fun x Γ1 => tb Γ1 fun y Γ2 => dat Γ2 x fun d => dat Γ2 y fun e => g d e fun z => match z with
  | .dat (.bool k) => Br k (tc Γ2 fun w Γ3 => dat Γ3 y fun e' => dat Γ3 w fun f => g' e' f (rq Γ3 Q)) (Q (.fz (.bool false)) Γ2)
  | _ => False
theorem pd_chain {op op' : CmpOp} {g g' : G2} (h : OpD X (compareOp op) g) (h' : OpD X (compareOp op') g') (ha : PD X a ta) (hb : PD X b tb) (hc : PD X c tc) (hm : lastMarks [op, op'] [b, c] = false := by with_unfolding_all rfl) :
    PD X (.Compare a [op, op'] [b, c] pos) (tdChain g g' ta tb tc) := by
  obtain ⟨r, ho, hr⟩ := h.ok
  obtain ⟨r', ho', hr'⟩ := h'.ok
  refine ⟨PE.imp (pe_chain ho ho' ha.run hb.run hc.run hm) fun σ H Q ⟨Γ, g0, q⟩ => ⟨Γ, g0, ha.mono _ _ _ (fun x Γ1 q => ?_) q⟩, fun Γ Q Q' hq => ha.mono _ _ _ fun x Γ1 => hb.mono _ _ _ fun y Γ2 => dat_mono fun d => dat_mono fun e => h.mono d e _ _ fun z q => ?_⟩
  · intro v H1 a1 r1
    refine ⟨Γ1, a1.rg, hb.mono _ _ _ (fun y Γ2 q => ?_) q⟩
    intro u H2 a2 r2
    have a12 := a1.trans g0 a2
    obtain ⟨d, nd, q⟩ := dat_ok a2.rg (r1.later g0 a1.rg a2) q
    obtain ⟨e, ne, q⟩ := dat_ok a2.rg r2 q
    refine hr H2 d e v u _ nd ne (h.mono _ _ _ _ (fun z q => ?_) q)
    intro w H3 sm rr
    have a3 := Aft.same a2.rg sm
    have a13 := a12.trans g0 a3
    split at q
    · refine ⟨_, rr, ?_⟩
      rw [br_iff] at q
      split at q
      · rename_i e; rw [if_pos e]
        refine ⟨Γ2, a3.rg, hc.mono _ _ _ (fun w Γ3 q => ?_) q⟩
        intro w' H4 a4 r4
        have a14 := a13.trans g0 a4
        obtain ⟨e', ne', q⟩ := dat_ok a4.rg ((r2.later a1.rg a2.rg a3).later a1.rg a3.rg a4) q
        obtain ⟨f, nf, q⟩ := dat_ok a4.rg r4 q
        refine hr' H4 e' f u w' _ ne' nf (h'.mono _ _ _ _ (fun z qz => ?_) q)
        intro w5 H5 sm5 rr5
        exact rq_ok g0 a14 qz sm5 rr5
      · rename_i e; rw [if_neg e]
        exact q _ H3 a13 rfl
    · exact q.elim
  · split at q
    · rw [br_iff] at q ⊢
      split at q
      · rename_i e; rw [if_pos e]
        exact hc.mono _ _ _ (fun w Γ3 => dat_mono fun e' => dat_mono fun f => h'.mono _ _ _ _ fun z => rq_mono hq) q
      · rename_i e; rw [if_neg e]
        exact hq _ _ q
    · exact q
theorem pb_chain {op op' : CmpOp} {g g' : G2} (h : OpD X (compareOp op) g) (h' : OpD X (compareOp op') g') (ha : PD X a ta) (hb : PD X b tb) (hc : PD X c tc) (hm : lastMarks [op, op'] [b, c] = false := by with_unfolding_all rfl)
    (hpt : ∀ (r r' : R2) (ta tb tc : TE), OpR X (compareOp op) r → OpR X (compareOp op') r' → PE X a ta → PE X b tb → PE X c tc → PT X (.Compare a [op, op'] [b, c] pos) (tTest (tChain r r' ta tb tc)) := by
      intro r r' ta tb tc h1 h2 h3 h4 h5; exact pt_chain h1 h2 h3 h4 h5) :
    PB X (.Compare a [op, op'] [b, c] pos) (tdB (tdChain g g' ta tb tc)) := by
  have hd := pd_chain (pos := pos) h h' ha hb hc hm
  refine ⟨?_, tdB_mono hd.mono⟩
  obtain ⟨r, ho, hr⟩ := h.ok
  obtain ⟨r', ho', hr'⟩ := h'.ok
  refine PT.imp (hpt r r' _ _ _ ho ho' ha.run hb.run hc.run) fun σ H Q q => ?_
  have q := tdB_ok hd.mono q
  obtain ⟨Γ, g0, q⟩ := q
  refine ⟨Γ, g0, ha.mono _ _ _ (fun x Γ1 q => ?_) q⟩
  intro v H1 a1 r1
  refine ⟨Γ1, a1.rg, hb.mono _ _ _ (fun y Γ2 q => ?_) q⟩
  intro u H2 a2 r2
  have a12 := a1.trans g0 a2
  obtain ⟨d, nd, q⟩ := dat_ok a2.rg (r1.later g0 a1.rg a2) q
  obtain ⟨e, ne, q⟩ := dat_ok a2.rg r2 q
  refine hr H2 d e v u _ nd ne (h.mono _ _ _ _ (fun z q => ?_) q)
  intro w H3 sm rr
  have a3 := Aft.same a2.rg sm
  have a13 := a12.trans g0 a3
  split at q
  · refine ⟨_, rr, ?_⟩
    rw [br_iff] at q
    split at q
    · rename_i e; rw [if_pos e]
      refine ⟨Γ2, a3.rg, hc.mono _ _ _ (fun w Γ3 q => ?_) q⟩
      intro w' H4 a4 r4
      have a14 := a13.trans g0 a4
      obtain ⟨e', ne', q⟩ := dat_ok a4.rg ((r2.later a1.rg a2.rg a3).later a1.rg a3.rg a4) q
      obtain ⟨f, nf, q⟩ := dat_ok a4.rg r4 q
      refine hr' H4 e' f u w' _ ne' nf (h'.mono _ _ _ _ (fun z qz => ?_) q)
      intro w5 H5 sm5 rr5
      exact rq_ok g0 a14 qz sm5 rr5
    · rename_i e; rw [if_neg e]
      exact q _ H3 a13 rfl
  · exact q.elim
end
end DL
/-! DL4: freezing; arguments, displays; subscripts, slices; calls of built-ins and of defs. -/
namespace DL
open PySem PySem.Spec PyProof.Rows L2
section
variable {X : Cx} {a b c e : Expr} {ta tb tc t : TD} {pos : Pos}

/-! ### freezing -/
def tdFz (t : TD) : TD := fun Γ Q => t Γ fun r Γ' => match r with
  | .fz d => Q (.fz d) Γ'
  | .raw v => Q (.raw v) Γ'
  | .ow _ (.lst ds) => Q (.fz (.list ds)) Γ'
  | .bw i => (match Γ'[i]? with
    | some (.ow p (.lst ds)) => Q (.fz (.list ds)) (Γ'.set i (.fz (.list ds)))
    | _ => False)
  | _ => False
/-- the slot i as sv instead, nothing else changed; what it held is not one's own any longer -/
theorem rg_drop {K : PySem.W.Frag} {H H' : Hp} {σ : Sl} {Γ : G} {i : Nat} {p : Addr} {o : O} {sv : SV} (g : RG K H σ Γ) (e : Γ[i]? = some (.ow p o)) (im : Imm H H') (k : ∀ q u, q ≠ p → H q = some u → H' q = some u)
    (h1 : ∀ q o', sv ≠ .ow q o') (h2 : ∀ d, sv = .fz d → Rep K H' d (.ref p)) (h3 : ∀ v, sv = .raw v → v = .ref p) : RG K H' σ (Γ.set i sv) ∧ ∀ q, own (Γ.set i sv) q → own Γ q ∧ q ≠ p := by
  have hi : i < Γ.length := by
    rcases Nat.lt_or_ge i Γ.length with h | h
    · exact h
    · rw [List.getElem?_eq_none h] at e; cases e
  have at_ : ∀ j (sw : SV), (Γ.set i sv)[j]? = some sw → (j = i ∧ sw = sv) ∨ (j ≠ i ∧ Γ[j]? = some sw) := fun j sw q => by
    by_cases z : j = i
    · subst z
      rw [List.getElem?_set_self hi] at q
      exact .inl ⟨rfl, (Option.some.inj q).symm⟩
    · rw [List.getElem?_set_ne (Ne.symm z)] at q
      exact .inr ⟨z, q⟩
  have np : ∀ j q o', j ≠ i → Γ[j]? = some (.ow q o') → q ≠ p := fun j q o' hj z1 z2 => by
    subst z2
    exact hj (g.one _ _ _ _ _ z1 e)
  refine ⟨⟨by rw [List.length_set]; exact g.len, fun j d q => ?_, fun j q o' z => ?_, fun j v q => ?_, fun j j' q o1 o2 z1 z2 => ?_⟩, fun q ⟨j, o', z⟩ => ?_⟩
  · rcases at_ j _ q with ⟨rfl, z⟩ | ⟨_, z⟩
    · exact ⟨_, (g.ow _ _ _ e).1, h2 d z.symm⟩
    · obtain ⟨v, z1, z2⟩ := g.fz _ _ z
      exact ⟨v, z1, z2.imm im⟩
  · rcases at_ j _ z with ⟨rfl, zz⟩ | ⟨hj, z⟩
    · exact absurd zz.symm (h1 _ _)
    · obtain ⟨z1, z2⟩ := g.ow _ _ _ z
      exact ⟨z1, z2.keep (fun u => k _ u (np _ _ _ hj z)) im⟩
  · rcases at_ j _ q with ⟨rfl, z⟩ | ⟨_, z⟩
    · rw [h3 v z.symm]; exact (g.ow _ _ _ e).1
    · exact g.raw _ _ z
  · rcases at_ j _ z1 with ⟨rfl, z⟩ | ⟨hj, z1⟩
    · exact absurd z.symm (h1 _ _)
    · rcases at_ j' _ z2 with ⟨rfl, z⟩ | ⟨hj', z2⟩
      · exact absurd z.symm (h1 _ _)
      · exact g.one _ _ _ _ _ z1 z2
  · rcases at_ j _ z with ⟨rfl, zz⟩ | ⟨hj, z⟩
    · exact absurd zz.symm (h1 _ _)
    · exact ⟨⟨j, o', z⟩, np _ _ _ hj z⟩
theorem Mut.lst {xs : List V} : Mut (some (.lst xs)) := trivial
theorem imm_frz {H : Hp} {p : Addr} {o : HO} (m : Mut (H p)) : Imm H (upd H p o) := Imm.upd (.inr m)
theorem keep_upd {H : Hp} {p : Addr} {o : HO} : ∀ q u, q ≠ p → H q = some u → upd H p o q = some u := fun q u n h => by rw [upd_ne n]; exact h
theorem pd_fz (h : PD X e t) : PD X e (tdFz t) := by
  refine ⟨⟨fun pins s σ H Q I ⟨Γ, g, q⟩ => ?_⟩, fun Γ Q Q' hq => h.mono _ _ _ fun r Γ' q => ?_⟩
  · -- the value, then the ghost step
    refine thn (h.run.run pins s σ H (fun v H1 => ∃ r Γ1, Aft X.K H Γ H1 σ Γ1 ∧ Res X.K H σ Γ H1 Γ1 v r ∧ (match r with
      | .fz d => (fun r Γ' => ∀ v H', Aft X.K H Γ H' σ Γ' → Res X.K H σ Γ H' Γ' v r → Q v H') (.fz d) Γ1
      | .raw v => (fun r Γ' => ∀ v H', Aft X.K H Γ H' σ Γ' → Res X.K H σ Γ H' Γ' v r → Q v H') (.raw v) Γ1
      | .ow _ (.lst ds) => (fun r Γ' => ∀ v H', Aft X.K H Γ H' σ Γ' → Res X.K H σ Γ H' Γ' v r → Q v H') (.fz (.list ds)) Γ1
      | .bw i => (match Γ1[i]? with
        | some (.ow p (.lst ds)) => (fun r Γ' => ∀ v H', Aft X.K H Γ H' σ Γ' → Res X.K H σ Γ H' Γ' v r → Q v H') (.fz (.list ds)) (Γ1.set i (.fz (.list ds)))
        | _ => False)
      | _ => False)) I ⟨Γ, g, h.mono _ _ _ (fun r Γ' q v H' af rs => ⟨r, Γ', af, rs, q⟩) q⟩) fun u s1 ⟨v, H1, I1, rv, r, Γ1, af, rs, q⟩ => ?_
    split at q
    · exact ⟨v, H1, I1, rv, q _ H1 af rs⟩
    · exact ⟨v, H1, I1, rv, q _ H1 af rs⟩
    · rename_i p ds
      obtain ⟨rfl, ⟨vs, e1, rp⟩, n, f⟩ := rs
      obtain ⟨od, I2⟩ := I1.lock e1 Mut.lst
      have im : Imm H1 (upd H1 p (.frz od (.lst vs))) := imm_frz (by rw [e1]; trivial)
      have g1 : RG X.K (upd H1 p (.frz od (.lst vs))) σ Γ1 := by
        refine ⟨af.rg.len, fun j d z => ?_, fun j q o z => ?_, af.rg.raw, af.rg.one⟩
        · obtain ⟨w, z1, z2⟩ := af.rg.fz _ _ z
          exact ⟨w, z1, z2.imm im⟩
        · obtain ⟨z1, z2⟩ := af.rg.ow _ _ _ z
          exact ⟨z1, z2.keep (fun u => keep_upd q u fun y => n (by rw [← y]; exact ⟨j, o, z⟩)) im⟩
      refine ⟨.ref p, _, I2, rv, q _ _ ⟨fun a u z1 z2 => ?_, g1, af.sh⟩ ⟨p, vs, rfl, .inl ⟨od, upd_same⟩, rp.imm im⟩⟩
      have ne : a ≠ p := fun y => by
        subst y
        rcases f with f | f
        · exact z2 f
        · rw [f] at z1; cases z1
      rw [upd_ne ne]
      exact af.keep _ _ z1 z2
    · rename_i i
      split at q
      · rename_i p ds e1
        obtain ⟨w1, vs, w2, rp⟩ := af.rg.ow _ _ _ e1
        have ev : v = .ref p := by
          have z := (show σ[i]? = some (some v) from rs).symm.trans w1
          cases z; rfl
        subst ev
        obtain ⟨od, I2⟩ := I1.lock w2 Mut.lst
        have im : Imm H1 (upd H1 p (.frz od (.lst vs))) := imm_frz (by rw [w2]; trivial)
        have rl : Rep X.K (upd H1 p (.frz od (.lst vs))) (.list ds) (.ref p) := ⟨p, vs, rfl, .inl ⟨od, upd_same⟩, rp.imm im⟩
        obtain ⟨g1, n1⟩ := rg_drop af.rg (sv := .fz (.list ds)) e1 im keep_upd (fun _ _ z => by cases z) (fun d z => by cases z; exact rl) (fun _ z => by cases z)
        refine ⟨.ref p, _, I2, rv, q _ _ ⟨fun a u z1 z2 => ?_, g1, fun a z => af.sh a (n1 a z).1⟩ rl⟩
        have ne : a ≠ p := fun y => by
          subst y
          rcases af.sh a ⟨i, _, e1⟩ with f | f
          · exact z2 f
          · rw [f] at z1; cases z1
        rw [upd_ne ne]
        exact af.keep _ _ z1 z2
      · exact q.elim
    · exact q.elim
  · split at q <;> first | exact hq _ _ q | (split at q <;> first | exact hq _ _ q | exact q) | exact q

/-! ### arguments, displays -/
def taNil : TAD := fun Γ Q => Q [] Γ
def taCons (ta : TD) (tr : TAD) : TAD := fun Γ Q => ta Γ fun r Γ1 => tr Γ1 fun rs Γ2 => Q (r :: rs) Γ2
variable {es : List Expr} {tr : TAD}
theorem pad_nil : PAD X [] taNil := ⟨PA.imp pa_nil fun σ H Q ⟨Γ, g, q⟩ => q [] H (Aft.refl g) rfl, fun Γ Q Q' h q => h _ _ q, fun Γ Q q => ⟨rfl, q⟩⟩
theorem Ress.from {K : PySem.W.Frag} {H H1 H2 : Hp} {σ σ1 : Sl} {Γ Γ1 Γ2 : G} (a : Aft K H Γ H1 σ1 Γ1) : ∀ {rs : List SV} {vs : List V}, Ress K H1 σ Γ1 H2 Γ2 rs vs → Ress K H σ Γ H2 Γ2 rs vs
  | [], _, h => h
  | r :: rs, _, h => by
    obtain ⟨v, w, e, h1, h2⟩ := h
    exact ⟨v, w, e, h1.from a, Ress.from a h2⟩
theorem pad_cons (ha : PD X a ta) (hr : PAD X es tr) (hs : starEach (a :: es) X.env = (false, eval a X.env) :: starEach es X.env := by rfl) : PAD X (a :: es) (taCons ta tr) := by
  refine ⟨PA.imp (pa_cons ha.run hr.run hs) fun σ H Q ⟨Γ, g, q⟩ => ⟨Γ, g, ha.mono _ _ _ (fun r Γ1 q => ?_) q⟩, fun Γ Q Q' h => ha.mono _ _ _ fun r Γ1 => hr.mono _ _ _ fun rs Γ2 q => h _ _ q, fun Γ Q q => ha.mono _ _ _ (fun r Γ1 q => hr.mono _ _ _ (fun rs Γ2 z => ⟨by rw [List.length_cons, List.length_cons, z.1], z.2⟩) (hr.len _ _ q)) q⟩
  intro v H1 a1 r1
  refine ⟨Γ1, a1.rg, hr.mono _ _ _ (fun rs Γ2 q => ?_) q⟩
  intro vs H2 a2 r2
  exact q (v :: vs) H2 (a1.trans g a2) ⟨v, vs, rfl, r1.later g a1.rg a2, r2.from a1⟩
/-- all are data for ever -/
def fzs : List SV → (List D → Prop) → Prop
  | [], k => k []
  | .fz d :: rs, k => fzs rs fun ds => k (d :: ds)
  | _ :: _, _ => False
theorem fzs_mono : ∀ {rs : List SV} {k k' : List D → Prop}, (∀ ds, k ds → k' ds) → fzs rs k → fzs rs k'
  | [], _, _, h, q => h _ q
  | .fz d :: rs, _, _, h, q => fzs_mono (rs := rs) (fun ds => h (d :: ds)) q
  | .no :: _, _, _, _, q => q
  | .ow _ _ :: _, _, _, _, q => q
  | .raw _ :: _, _, _, _, q => q
  | .bw _ :: _, _, _, _, q => q
theorem fzs_ok {K : PySem.W.Frag} {H H' : Hp} {σ : Sl} {Γ Γ' : G} : ∀ {rs : List SV} {vs : List V} {k : List D → Prop}, Ress K H σ Γ H' Γ' rs vs → fzs rs k → ∃ ds, Reps K H' ds vs ∧ k ds
  | [], _, _, h, q => ⟨[], h, q⟩
  | .fz d :: rs, _, _, h, q => by
    obtain ⟨v, w, e, h1, h2⟩ := h
    obtain ⟨ds, h3, q⟩ := fzs_ok h2 q
    exact ⟨d :: ds, ⟨v, w, e, h1, h3⟩, q⟩
  | .no :: _, _, _, _, q => q.elim
  | .ow _ _ :: _, _, _, _, q => q.elim
  | .raw _ :: _, _, _, _, q => q.elim
  | .bw _ :: _, _, _, _, q => q.elim
theorem le_line {n : Nat} (h : n ≤ 1000) : n ≤ sizeLine := Nat.le_of_lt (small1000 h)
theorem fzs_len {K : PySem.W.Frag} {H H' : Hp} {σ : Sl} {Γ Γ' : G} {rs : List SV} {vs : List V} {ds : List D} (h : Ress K H σ Γ H' Γ' rs vs) (r : Reps K H' ds vs) : ds.length = rs.length := by
  have go : ∀ {rs : List SV} {vs : List V}, Ress K H σ Γ H' Γ' rs vs → vs.length = rs.length := by
    intro rs
    induction rs with
    | nil => intro vs h; rw [show vs = [] from h]; rfl
    | cons r rs ih =>
      intro vs h
      obtain ⟨v, w, rfl, _, h2⟩ := h
      simp only [List.length_cons, ih h2]
  rw [← r.len, go h]
def tdTup (t : TAD) : TD := fun Γ Q => t Γ fun rs Γ' => fzs rs fun ds => Q (.fz (.tuple ds)) Γ'
theorem pd_tup {k : Nat} (h : PAD X es tr) (hn : es.length ≤ 1000 := by decide) : PD X (.Tuple es k pos) (tdTup tr) := by
  refine ⟨PE.imp (pe_tup h.run) fun σ H Q ⟨Γ, g, q⟩ => ⟨Γ, g, h.mono _ _ _ (fun rs Γ1 q => ?_) (h.len _ _ q)⟩, fun Γ Q Q' hq => h.mono _ _ _ fun rs Γ1 => fzs_mono fun ds q => hq _ _ q⟩
  intro vs H1 a1 r1
  have ql := q.1
  obtain ⟨ds, rp, q⟩ := fzs_ok r1 q.2
  have hl : ds.length ≤ 1000 := by rw [fzs_len r1 rp, ql]; exact hn
  refine ⟨by rw [rp.len]; exact le_line hl, fun p hp => ?_⟩
  have sm : Same H1 (upd H1 p (.tup vs)) := same_upd hp
  exact q _ _ (a1.trans g (Aft.same a1.rg sm)) ⟨p, vs, rfl, .inl upd_same, rp.imm (imm_same sm)⟩
def tdLst (t : TAD) : TD := fun Γ Q => t Γ fun rs Γ' => fzs rs fun ds => ∀ p, Q (.ow p (.lst ds)) Γ'
theorem pd_lst (h : PAD X es tr) (hn : es.length ≤ 1000 := by decide) : PD X (.List es pos) (tdLst tr) := by
  refine ⟨PE.imp (pe_lst h.run) fun σ H Q ⟨Γ, g, q⟩ => ⟨Γ, g, h.mono _ _ _ (fun rs Γ1 q => ?_) (h.len _ _ q)⟩, fun Γ Q Q' hq => h.mono _ _ _ fun rs Γ1 => fzs_mono fun ds q p => hq _ _ (q p)⟩
  intro vs H1 a1 r1
  have ql := q.1
  obtain ⟨ds, rp, q⟩ := fzs_ok r1 q.2
  have hl : ds.length ≤ 1000 := by rw [fzs_len r1 rp, ql]; exact hn
  refine ⟨by rw [rp.len]; exact le_line hl, fun p hp => ?_⟩
  have sm : Same H1 (upd H1 p (.lst vs)) := same_upd hp
  exact q p _ _ (a1.trans g (Aft.same a1.rg sm)) ⟨rfl, ⟨vs, upd_same, rp.imm (imm_same sm)⟩, fun z => a1.rg.there z hp, a1.fresh (.inr hp)⟩
/-- {} as a dict with int keys, with tuple keys -/
def tdDictI : TD := fun Γ Q => ∀ p, Q (.ow p (.dI [])) Γ
def tdDictT : TD := fun Γ Q => ∀ p, Q (.ow p (.dT [])) Γ
theorem pd_dictI : PD X (.Dict [] [] pos) tdDictI := by
  refine ⟨PE.imp pe_dnewK fun σ H Q ⟨Γ, g, q⟩ p hp => ?_, fun Γ Q Q' hq q p => hq _ _ (q p)⟩
  exact q p _ _ (Aft.same g (same_upd hp)) ⟨rfl, ⟨[], upd_same, rfl⟩, fun z => g.there z hp, .inr hp⟩
theorem pd_dictT : PD X (.Dict [] [] pos) tdDictT := by
  refine ⟨PE.imp pe_dnewT fun σ H Q ⟨Γ, g, q⟩ p hp => ?_, fun Γ Q Q' hq q p => hq _ _ (q p)⟩
  exact q p _ _ (Aft.same g (same_upd hp)) ⟨rfl, ⟨[], upd_same, rfl⟩, fun z => g.there z hp, .inr hp⟩

/-! ### subscripts -/
theorem atI_reps {K : PySem.W.Frag} {H : Hp} {ds : List D} {vs : List V} {i : Int} {d : D} (h : Reps K H ds vs) (e : atI ds i = some d) : ∃ v, atI vs i = some v ∧ Rep K H d v := by
  unfold atI at e ⊢
  rw [h.len]
  cases q : ixN ds.length i with
  | none => rw [q] at e; cases e
  | some j =>
    rw [q] at e
    exact h.get e
/-- atI, told so that it reckons on lists whose tail is not known -/
def atD {α : Type} (ds : List α) (i : Int) : Option α := match i with
  | .ofNat n => ds[n]?
  | .negSucc n => if n < ds.length then ds[ds.length - 1 - n]? else none
theorem atD_eq {α : Type} {ds : List α} {i : Int} : atD ds i = atI ds i := by
  cases i with
  | ofNat n =>
    show ds[n]? = (ixN ds.length (n : Int)).bind _
    unfold ixN
    rw [if_pos (Int.natCast_nonneg n)]
    by_cases h : n < ds.length
    · rw [if_pos (by exact_mod_cast h)]
      rfl
    · rw [if_neg (by exact_mod_cast h), List.getElem?_eq_none (Nat.le_of_not_lt h)]
      rfl
  | negSucc n =>
    have n0 : ¬ (0 : Int) ≤ Int.negSucc n := by omega
    show (if n < ds.length then ds[ds.length - 1 - n]? else none) = (ixN ds.length (Int.negSucc n)).bind _
    unfold ixN
    rw [if_neg n0]
    by_cases h : n < ds.length
    · have h2 : -(ds.length : Int) ≤ Int.negSucc n := by omega
      have h3 : (Int.negSucc n + (ds.length : Int)).toNat = ds.length - 1 - n := by omega
      rw [if_pos h, if_pos h2, h3]
      rfl
    · have h2 : ¬ -(ds.length : Int) ≤ Int.negSucc n := by omega
      rw [if_neg h, if_neg h2]
      rfl
def atP (ds : List D) (i : Int) (k : D → Prop) : Prop := match atD ds i with
  | some d => k d
  | none => False
theorem atP_mono {ds : List D} {i : Int} {k k' : D → Prop} (h : ∀ d, k d → k' d) (q : atP ds i k) : atP ds i k' := by
  unfold atP at q ⊢
  split at q
  · exact h _ q
  · exact q
theorem atP_ok {ds : List D} {i : Int} {k : D → Prop} (q : atP ds i k) : ∃ d, atI ds i = some d ∧ k d := by
  unfold atP at q
  split at q
  · exact ⟨_, by rw [← atD_eq]; assumption, q⟩
  · exact q.elim
theorem atP_nat {ds : List D} {j : Nat} {d : D} {k : D → Prop} (h : ds[j]? = some d) (q : k d) : atP ds (j : Int) k := by
  unfold atP
  rw [atD_eq, atI_nat h]
  exact q
def gIx : G2 := fun d e k => match d, e with
  | .tuple ds, .int i => atP ds i fun x => k (.dat x)
  | .list ds, .int i => atP ds i fun x => k (.dat x)
  | .str z, .int i => z.length ≤ sizeLine ∧ (match atD z.cps.toList i with
    | some c => k (.dat (.str ⟨#[c]⟩))
    | none => False)
  | _, _ => False
theorem strOk_sign {z : Str} {i : Int} {c : Nat} (h : PyData.strOk z = true) (e : atI z.cps.toList i = some c) : PyData.strOk ⟨#[c]⟩ = true := by
  unfold atI at e
  cases q : ixN z.cps.toList.length i with
  | none => rw [q] at e; cases e
  | some j =>
    rw [q] at e
    have hm : c ∈ z.cps.toList := List.mem_of_getElem? e
    unfold PyData.strOk at h ⊢
    rw [← Array.all_toList, List.all_eq_true] at h
    simpa using h c hm
structure IxD (X : Cx) (g : G2) : Prop where
  ok : ∃ r : R2, IxR X r ∧ ∀ (H : Hp) (d e : D) (v u : V) (Q : VK), RepN X.K H d v → RepN X.K H e u → g d e (fun z => ∀ w H', Same H H' → RRes X.K H H' w z → Q w H') → r v u H Q
  mono : ∀ d e (k k' : R → Prop), (∀ z, k z → k' z) → g d e k → g d e k'
theorem ixd : IxD X gIx := by
  refine ⟨⟨_, ix_seq, fun H d e v u Q nd ne q => ?_⟩, fun d e k k' h q => ?_⟩
  · unfold gIx at q
    split at q
    · obtain ⟨x, ex, q⟩ := atP_ok q
      obtain ⟨a, vs, rfl, h1, h2⟩ := nd.tuple
      obtain ⟨w, ew, rw'⟩ := atI_reps h2 ex
      exact .inr (.inl ⟨a, vs, _, w, rfl, ne.int, h1.sq, ew, q w H (same_refl H) rw'⟩)
    · obtain ⟨x, ex, q⟩ := atP_ok q
      obtain ⟨a, vs, rfl, h1, h2⟩ := nd.list
      obtain ⟨w, ew, rw'⟩ := atI_reps h2 ex
      exact .inl ⟨a, vs, _, w, rfl, ne.int, h1, ew, q w H (same_refl H) rw'⟩
    · obtain ⟨hz, q⟩ := q
      split at q
      · rename_i c ec
        rw [atD_eq] at ec
        exact .inr (.inr ⟨_, _, c, nd.str.1, ne.int, hz, ec, q _ H (same_refl H) ⟨rfl, strOk_sign nd.str.2 ec⟩⟩)
      · exact q.elim
    · exact q.elim
  · unfold gIx at q ⊢
    split at q
    · exact atP_mono (fun _ => h _) q
    · exact atP_mono (fun _ => h _) q
    · obtain ⟨hz, q⟩ := q
      refine ⟨hz, ?_⟩
      split at q
      · exact h _ q
      · exact q
    · exact q
theorem pd_ix (ha : PD X a ta) (hb : PD X b tb) (hs : PlainIx b := by intro _ _; rfl) : PD X (.Subscript a b pos) (td2 gIx ta tb) := by
  obtain ⟨r, ho, hr⟩ := (ixd (X := X)).ok
  have hO : OpD X getItem gIx ∨ True := .inr trivial
  refine ⟨PE.imp (pe_ix ho ha.run hb.run hs) fun σ H Q ⟨Γ, g0, q⟩ => ⟨Γ, g0, ha.mono _ _ _ (fun x Γ1 q1 => ?_) q⟩, fun Γ Q Q' hq => ha.mono _ _ _ fun x Γ1 => hb.mono _ _ _ fun y Γ2 => dat_mono fun d => dat_mono fun e => (ixd (X := X)).mono d e _ _ fun z => rq_mono hq⟩
  intro v H1 a1 r1
  refine ⟨Γ1, a1.rg, hb.mono _ _ _ (fun y Γ2 q2 => ?_) q1⟩
  intro u H2 a2 r2
  have a12 := a1.trans g0 a2
  obtain ⟨d, nd, q2⟩ := dat_ok a2.rg (r1.later g0 a1.rg a2) q2
  obtain ⟨e, ne, q2⟩ := dat_ok a2.rg r2 q2
  refine hr H2 d e v u Q nd ne ((ixd (X := X)).mono _ _ _ _ (fun z qz => ?_) q2)
  intro w H' sm rr
  exact rq_ok g0 a12 qz sm rr

/-! ### slices -/
abbrev TOD := G → (Option Int → G → Prop) → Prop
def liftO (K : PySem.W.Frag) (t : TOD) : TO := fun σ H Q => ∃ Γ, RG K H σ Γ ∧ t Γ fun o Γ' => ∀ H', Aft K H Γ H' σ Γ' → Q o H'
structure POD (X : Cx) (o : Option Expr) (t : TOD) : Prop where
  run : PO X o (liftO X.K t)
  mono : ∀ Γ (Q Q' : Option Int → G → Prop), (∀ r Γ', Q r Γ' → Q' r Γ') → t Γ Q → t Γ Q'
def toN : TOD := fun Γ Q => Q none Γ
def toS (t : TD) : TOD := fun Γ Q => t Γ fun r Γ' => match r with
  | .fz (.int i) => Q (some i) Γ'
  | _ => False
theorem PO.imp {o : Option Expr} {t t' : TO} (h : PO X o t) (hi : ∀ σ H Q, t' σ H Q → t σ H Q) : PO X o t' := by
  cases h with
  | mk run => exact ⟨by intros; exact run _ _ _ _ _ (by assumption) (hi _ _ _ (by assumption))⟩
theorem pod_none : POD X none toN := ⟨PO.imp po_none fun σ H Q ⟨Γ, g, q⟩ => q H (Aft.refl g), fun Γ Q Q' h q => h _ _ q⟩
theorem pod_some (h : PD X e t) : POD X (some e) (toS t) := by
  refine ⟨PO.imp (po_some h.run) fun σ H Q ⟨Γ, g, q⟩ => ⟨Γ, g, h.mono _ _ _ (fun r Γ' q => ?_) q⟩, fun Γ Q Q' hq => h.mono _ _ _ fun r Γ' q => ?_⟩
  · intro v H' af rs
    split at q
    · exact ⟨_, rs, q H' af⟩
    · exact q.elim
  · split at q
    · exact hq _ _ q
    · exact q
def cutD (xs : List D) (lo hi : Option Int) : List D := (xs.drop (HT.sIx xs.length 0 lo)).take (HT.sIx xs.length xs.length hi - HT.sIx xs.length 0 lo)
theorem Reps.cut {K : PySem.W.Frag} {H : Hp} {ds : List D} {vs : List V} (lo hi : Option Int) (h : Reps K H ds vs) : Reps K H (cutD ds lo hi) (cutV vs lo hi) := by
  unfold cutD cutV
  rw [h.len]
  exact (h.drop _).take _
def gSl (d : D) (lo hi : Option Int) (k : R → Prop) : Prop := match d with
  | .tuple ds => k (.dat (.tuple (cutD ds lo hi)))
  | .list ds => k (.new (.lst (cutD ds lo hi)))
  | .str z => z.length ≤ sizeLine ∧ k (.dat (.str (cutS z lo hi)))
  | _ => False
theorem strOk_cut {z : Str} {lo hi : Option Int} (h : PyData.strOk z = true) : PyData.strOk (cutS z lo hi) = true := by
  unfold PyData.strOk at h ⊢
  unfold cutS
  rw [← Array.all_toList, List.all_eq_true] at h ⊢
  intro c hc
  simp only at hc
  exact h c (List.mem_of_mem_drop (List.mem_of_mem_take hc))
def tdSl (ta : TD) (tl th : TOD) : TD := fun Γ Q => ta Γ fun x Γ1 => tl Γ1 fun lo Γ2 => th Γ2 fun hi Γ3 => dat Γ3 x fun d => gSl d lo hi (rq Γ3 Q)
theorem gSl_mono {d : D} {lo hi : Option Int} {k k' : R → Prop} (h : ∀ z, k z → k' z) (q : gSl d lo hi k) : gSl d lo hi k' := by
  unfold gSl at q ⊢
  split at q <;> first | exact h _ q | exact ⟨q.1, h _ q.2⟩ | exact q
variable {lo hi : Option Expr} {tl th : TOD} {p2 : Pos}
theorem pd_slice (ha : PD X a ta) (hl : POD X lo tl) (hh : POD X hi th) : PD X (.Subscript a (.Slice lo hi none p2) pos) (tdSl ta tl th) := by
  refine ⟨PE.imp (pe_slice ((sl_tupA.or sl_list).or sl_str) ha.run hl.run hh.run) fun σ H Q ⟨Γ, g0, q⟩ => ⟨Γ, g0, ha.mono _ _ _ (fun x Γ1 q1 => ?_) q⟩, fun Γ Q Q' hq => ha.mono _ _ _ fun x Γ1 => hl.mono _ _ _ fun o Γ2 => hh.mono _ _ _ fun o' Γ3 => dat_mono fun d => gSl_mono fun z => rq_mono hq⟩
  intro v H1 a1 r1
  refine ⟨Γ1, a1.rg, hl.mono _ _ _ (fun o Γ2 q2 => ?_) q1⟩
  intro H2 a2
  refine ⟨Γ2, a2.rg, hh.mono _ _ _ (fun o' Γ3 q3 => ?_) q2⟩
  intro H3 a3
  have a12 := a1.trans g0 a2
  have a13 := a12.trans g0 a3
  obtain ⟨d, nd, q3⟩ := dat_ok a3.rg ((r1.later g0 a1.rg a2).later g0 a2.rg a3) q3
  unfold gSl at q3
  split at q3
  · obtain ⟨p, vs, rfl, h1, h2⟩ := nd.tuple
    refine .inl (.inl ⟨p, vs, rfl, h1.sq, fun hw => ?_, fun hw p' hp => ?_⟩)
    · have rs : Rep X.K H3 (.tuple (cutD _ o o')) (.ref p) := ⟨p, cutV vs o o', rfl, by
        have : cutV vs o o' = vs := by
          unfold cutV
          rw [hw.1, hw.2]
          simp
        rw [this]; exact h1, h2.cut o o'⟩
      exact rq_ok g0 a13 q3 (same_refl H3) rs
    · exact rq_ok g0 a13 q3 (same_upd hp) ⟨p', _, rfl, .inl upd_same, (h2.cut o o').imm (imm_same (same_upd hp))⟩
  · obtain ⟨p, vs, rfl, h1, h2⟩ := nd.list
    exact .inl (.inr ⟨p, vs, rfl, h1, fun p' hp => rq_ok g0 a13 q3 (same_upd hp) ⟨p', rfl, hp, _, upd_same, (h2.cut o o').imm (imm_same (same_upd hp))⟩⟩)
  · exact .inr ⟨_, nd.str.1, q3.1, rq_ok g0 a13 q3.2 (same_refl H3) ⟨rfl, strOk_cut nd.str.2⟩⟩
  · exact q3.elim

/-! ### calls of built-ins -/
abbrev GC := List D → (R → Prop) → Prop
structure CallD (X : Cx) (f : Value) (g : GC) : Prop where
  ok : ∃ r : List V → Hp → VK → Prop, CallR X f r ∧ ∀ (H : Hp) (ds : List D) (vs : List V) (Q : VK), Paired (RepN X.K H) ds vs → g ds (fun z => ∀ w H', Same H H' → RRes X.K H H' w z → Q w H') → r vs H Q
  mono : ∀ ds (k k' : R → Prop), (∀ z, k z → k' z) → g ds k → g ds k'
/-- all arguments as they stand now -/
def dats (Γ : G) : List SV → (List D → Prop) → Prop
  | [], k => k []
  | r :: rs, k => dat Γ r fun d => dats Γ rs fun ds => k (d :: ds)
theorem dats_mono {Γ : G} : ∀ {rs : List SV} {k k' : List D → Prop}, (∀ ds, k ds → k' ds) → dats Γ rs k → dats Γ rs k'
  | [], _, _, h, q => h _ q
  | r :: rs, _, _, h, q => dat_mono (fun d => dats_mono (rs := rs) fun ds => h (d :: ds)) q
theorem dats_ok {K : PySem.W.Frag} {H H0 : Hp} {σ : Sl} {Γ Γ0 : G} (g : RG K H σ Γ) : ∀ {rs : List SV} {vs : List V} {k : List D → Prop}, Ress K H0 σ Γ0 H Γ rs vs → dats Γ rs k → ∃ ds, Paired (RepN K H) ds vs ∧ k ds
  | [], _, _, h, q => by
    rw [show _ = [] from h]
    exact ⟨[], .nil, q⟩
  | r :: rs, _, _, h, q => by
    obtain ⟨v, w, rfl, h1, h2⟩ := h
    obtain ⟨d, nd, q⟩ := dat_ok g h1 q
    obtain ⟨ds, nds, q⟩ := dats_ok g h2 q
    exact ⟨d :: ds, .cons nd nds, q⟩
def tdCB (g : GC) (t : TAD) : TD := fun Γ Q => t Γ fun rs Γ' => dats Γ' rs fun ds => g ds (rq Γ' Q)
theorem tdCB_ok {f : Value} {g : GC} (h : CallD X f g) {r : List V → Hp → VK → Prop}
    (hr : ∀ (H : Hp) (ds : List D) (vs : List V) (Q : VK), Paired (RepN X.K H) ds vs → g ds (fun z => ∀ w H', Same H H' → RRes X.K H H' w z → Q w H') → r vs H Q) (m : MonoA tr) {σ : Sl} {H : Hp} {Q : VK} (q : lift X.K (tdCB g tr) σ H Q) : tCB r (liftA X.K tr) σ H Q := by
  obtain ⟨Γ, g0, q⟩ := q
  refine ⟨Γ, g0, m _ _ _ (fun rs Γ' q => ?_) q⟩
  intro vs H' af rr
  obtain ⟨ds, nds, q⟩ := dats_ok af.rg rr q
  refine hr H' ds vs Q nds (h.mono _ _ _ (fun z qz => ?_) q)
  intro w H2 sm rz
  exact rq_ok g0 af qz sm rz
theorem tdCB_mono {f : Value} {g : GC} (h : CallD X f g) (m : MonoA tr) : Mono (tdCB g tr) := fun Γ Q Q' hq => m _ _ _ fun rs Γ' => dats_mono fun ds => h.mono _ _ _ fun z => rq_mono hq
variable {x : Str} {p : Pos} {id : String} {T : String}
theorem pd_callB {g : GC} (h : CallD X (.builtin id) g) (hg : Gl X x) (hm : X.mg x = none) (hv : bootBuiltins x = some (.builtin id)) (ha : PAD X (e :: es) tr)
    (hn : x ≠ "__name__" := by decide) (hd : (x == ("__debug__" : Str)) = false := by decide) (he : starEach (e :: es) X.env = (false, eval e X.env) :: starEach es X.env := by rfl) (hpl : (backTo pos (starEach es X.env)).any (·.1) = false := by rfl) : PD X (.Call (.Name x p) (e :: es) [] pos) (tdCB g tr) := by
  obtain ⟨r, hc, hr⟩ := h.ok
  exact ⟨PE.imp (pe_callB hc hg hm hv ha.run hn hd he hpl) fun σ H Q => tdCB_ok h hr ha.mono, tdCB_mono h ha.mono⟩
theorem pd_callTy {g : GC} (h : CallD X (.type T) g) (hg : Gl X x) (hm : X.mg x = none) (hv : bootBuiltins x = some (.type T)) (ha : PAD X (e :: es) tr)
    (hn : x ≠ "__name__" := by decide) (hd : (x == ("__debug__" : Str)) = false := by decide) (he : starEach (e :: es) X.env = (false, eval e X.env) :: starEach es X.env := by rfl) (hpl : (backTo pos (starEach es X.env)).any (·.1) = false := by rfl) : PD X (.Call (.Name x p) (e :: es) [] pos) (tdCB g tr) := by
  obtain ⟨r, hc, hr⟩ := h.ok
  exact ⟨PE.imp (pe_callTy hc hg hm hv ha.run hn hd he hpl) fun σ H Q => tdCB_ok h hr ha.mono, tdCB_mono h ha.mono⟩
end
end DL
/-! DL5: built-ins one by one: len, list, tuple, sorted, abs, int, max, min, sum, range, isinstance. -/
namespace DL
open PySem PySem.Spec PyProof.Rows L2
section
variable {X : Cx}
theorem pr1 {α β : Type} {F : α → β → Prop} {x : α} {ys : List β} (h : Paired F [x] ys) : ∃ y, ys = [y] ∧ F x y := by
  cases h with
  | cons a b => cases b; exact ⟨_, rfl, a⟩
theorem pr2 {α β : Type} {F : α → β → Prop} {x x' : α} {ys : List β} (h : Paired F [x, x'] ys) : ∃ y y', ys = [y, y'] ∧ F x y ∧ F x' y' := by
  cases h with
  | cons a b => obtain ⟨y', rfl, c⟩ := pr1 b; exact ⟨_, _, rfl, a, c⟩
def gLen : GC := fun ds k => match ds with
  | [.list xs] => k (.dat (.int xs.length))
  | [.tuple xs] => k (.dat (.int xs.length))
  | [.str z] => z.length ≤ sizeLine ∧ k (.dat (.int z.length))
  | _ => False
theorem cd_len : CallD X (.builtin "len") gLen := by
  refine ⟨⟨_, call_len_seq.or call_len_str, fun H ds vs Q nd q => ?_⟩, fun ds k k' h q => ?_⟩
  · unfold gLen at q
    split at q
    · obtain ⟨v, rfl, n⟩ := pr1 nd
      obtain ⟨a, ws, rfl, h1, h2⟩ := n.list
      exact .inl ⟨a, ws, rfl, .inl h1, q _ H (same_refl H) (by rw [h2.len]; rfl)⟩
    · obtain ⟨v, rfl, n⟩ := pr1 nd
      obtain ⟨a, ws, rfl, h1, h2⟩ := n.tuple
      exact .inl ⟨a, ws, rfl, .inr h1.sq, q _ H (same_refl H) (by rw [h2.len]; rfl)⟩
    · obtain ⟨v, rfl, n⟩ := pr1 nd
      rw [n.str.1]
      exact .inr ⟨_, rfl, q.1, q.2 _ H (same_refl H) rfl⟩
    · exact q.elim
  · unfold gLen at q ⊢
    split at q <;> first | exact h _ q | exact ⟨q.1, h _ q.2⟩ | exact q
def gList : GC := fun ds k => match ds with
  | [.list xs] => k (.new (.lst xs))
  | [.tuple xs] => k (.new (.lst xs))
  | _ => False
theorem cd_list : CallD X (.type "list") gList := by
  refine ⟨⟨_, call_list_of, fun H ds vs Q nd q => ?_⟩, fun ds k k' h q => ?_⟩
  · unfold gList at q
    split at q
    · obtain ⟨v, rfl, n⟩ := pr1 nd
      obtain ⟨a, ws, rfl, h1, h2⟩ := n.list
      exact ⟨a, ws, rfl, .inl h1, fun p hp => q _ _ (same_upd hp) ⟨p, rfl, hp, ws, upd_same, h2.imm (imm_same (same_upd hp))⟩⟩
    · obtain ⟨v, rfl, n⟩ := pr1 nd
      obtain ⟨a, ws, rfl, h1, h2⟩ := n.tuple
      exact ⟨a, ws, rfl, .inr h1.sq, fun p hp => q _ _ (same_upd hp) ⟨p, rfl, hp, ws, upd_same, h2.imm (imm_same (same_upd hp))⟩⟩
    · exact q.elim
  · unfold gList at q ⊢
    split at q <;> first | exact h _ q | exact q
def gTuple : GC := fun ds k => match ds with
  | [.list xs] => k (.dat (.tuple xs))
  | [.tuple xs] => k (.dat (.tuple xs))
  | _ => False
theorem cd_tuple : CallD X (.type "tuple") gTuple := by
  refine ⟨⟨_, call_tuple_of, fun H ds vs Q nd q => ?_⟩, fun ds k k' h q => ?_⟩
  · unfold gTuple at q
    split at q
    · obtain ⟨v, rfl, n⟩ := pr1 nd
      obtain ⟨a, ws, rfl, h1, h2⟩ := n.list
      exact ⟨a, ws, rfl, .inl ⟨h1, fun p hp => q _ _ (same_upd hp) ⟨p, ws, rfl, .inl upd_same, h2.imm (imm_same (same_upd hp))⟩⟩⟩
    · obtain ⟨v, rfl, n⟩ := pr1 nd
      obtain ⟨a, ws, rfl, h1, h2⟩ := n.tuple
      exact ⟨a, ws, rfl, .inr ⟨h1.sq, q _ H (same_refl H) ⟨a, ws, rfl, h1, h2⟩⟩⟩
    · exact q.elim
  · unfold gTuple at q ⊢
    split at q <;> first | exact h _ q | exact q
/-- sorted of ints -/
def gSortI : GC := fun ds k => match ds with
  | [.list es] => ∃ xs : List Int, es = xs.map .int ∧ ∀ ys : List Int, ys.Perm xs → ys.Pairwise (· ≤ ·) → k (.new (.lst (ys.map .int)))
  | _ => False
theorem cd_sortI : CallD X (.builtin "sorted") gSortI := by
  refine ⟨⟨_, cr_sortedI, fun H ds vs Q nd q => ?_⟩, fun ds k k' h q => ?_⟩
  · unfold gSortI at q
    split at q
    · obtain ⟨xs, rfl, q⟩ := q
      obtain ⟨v, rfl, n⟩ := pr1 nd
      obtain ⟨a, ws, rfl, h1, h2⟩ := n.list
      rw [h2.ints] at h1
      exact ⟨a, xs, rfl, h1, fun ys p hp hs hn => q ys hp hs _ _ (same_upd hn) ⟨p, rfl, hn, _, upd_same, Reps.of_ints ys⟩⟩
    · exact q.elim
  · unfold gSortI at q ⊢
    split at q
    · obtain ⟨xs, e, q⟩ := q
      exact ⟨xs, e, fun ys h1 h2 => h _ (q ys h1 h2)⟩
    · exact q
def gAbs : GC := fun ds k => match ds with
  | [.int i] => k (.dat (.int (if i < 0 then -i else i)))
  | _ => False
theorem cd_abs : CallD X (.builtin "abs") gAbs := by
  refine ⟨⟨_, call_abs, fun H ds vs Q nd q => ?_⟩, fun ds k k' h q => ?_⟩
  · unfold gAbs at q
    split at q
    · obtain ⟨v, rfl, n⟩ := pr1 nd
      rw [n.int]
      exact ⟨_, rfl, q _ H (same_refl H) rfl⟩
    · exact q.elim
  · unfold gAbs at q ⊢
    split at q <;> first | exact h _ q | exact q
def gInt : GC := fun ds k => match ds with
  | [.int i] => k (.dat (.int i))
  | [.bool b] => k (.dat (.int (if b then 1 else 0)))
  | _ => False
theorem cd_int : CallD X (.type "int") gInt := by
  refine ⟨⟨_, call_int1, fun H ds vs Q nd q => ?_⟩, fun ds k k' h q => ?_⟩
  · unfold gInt at q
    split at q
    · obtain ⟨v, rfl, n⟩ := pr1 nd
      rw [n.int]
      exact .inl ⟨_, rfl, q _ H (same_refl H) rfl⟩
    · obtain ⟨v, rfl, n⟩ := pr1 nd
      rw [n.bool]
      exact .inr ⟨_, rfl, q _ H (same_refl H) rfl⟩
    · exact q.elim
  · unfold gInt at q ⊢
    split at q <;> first | exact h _ q | exact q
def gMax : GC := fun ds k => match ds with
  | [.int i, .int j] => k (.dat (.int (if j > i then j else i)))
  | [.list es] => ∃ xs : List Int, es = xs.map .int ∧ 0 < xs.length ∧ ∀ M, M ∈ xs → (∀ a ∈ xs, a ≤ M) → k (.dat (.int M))
  | _ => False
def gMin : GC := fun ds k => match ds with
  | [.int i, .int j] => k (.dat (.int (if j < i then j else i)))
  | [.list es] => ∃ xs : List Int, es = xs.map .int ∧ 0 < xs.length ∧ ∀ M, M ∈ xs → (∀ a ∈ xs, M ≤ a) → k (.dat (.int M))
  | _ => False
theorem cd_max (hc : X.calm = true) : CallD X (.builtin "max") gMax := by
  refine ⟨⟨_, (call_max2 hc).or (cr_max hc), fun H ds vs Q nd q => ?_⟩, fun ds k k' h q => ?_⟩
  · unfold gMax at q
    split at q
    · obtain ⟨v, u, rfl, n, n'⟩ := pr2 nd
      rw [n.int, n'.int]
      exact .inl ⟨_, _, rfl, q _ H (same_refl H) rfl⟩
    · obtain ⟨xs, rfl, ne, q⟩ := q
      obtain ⟨v, rfl, n⟩ := pr1 nd
      obtain ⟨a, ws, rfl, h1, h2⟩ := n.list
      rw [h2.ints] at h1
      exact .inr ⟨a, xs, rfl, h1, ne, fun M h3 h4 => q M h3 h4 _ H (same_refl H) rfl⟩
    · exact q.elim
  · unfold gMax at q ⊢
    split at q
    · exact h _ q
    · obtain ⟨xs, e, ne, q⟩ := q
      exact ⟨xs, e, ne, fun M h1 h2 => h _ (q M h1 h2)⟩
    · exact q
theorem cd_min (hc : X.calm = true) : CallD X (.builtin "min") gMin := by
  refine ⟨⟨_, (call_min2 hc).or (cr_min hc), fun H ds vs Q nd q => ?_⟩, fun ds k k' h q => ?_⟩
  · unfold gMin at q
    split at q
    · obtain ⟨v, u, rfl, n, n'⟩ := pr2 nd
      rw [n.int, n'.int]
      exact .inl ⟨_, _, rfl, q _ H (same_refl H) rfl⟩
    · obtain ⟨xs, rfl, ne, q⟩ := q
      obtain ⟨v, rfl, n⟩ := pr1 nd
      obtain ⟨a, ws, rfl, h1, h2⟩ := n.list
      rw [h2.ints] at h1
      exact .inr ⟨a, xs, rfl, h1, ne, fun M h3 h4 => q M h3 h4 _ H (same_refl H) rfl⟩
    · exact q.elim
  · unfold gMin at q ⊢
    split at q
    · exact h _ q
    · obtain ⟨xs, e, ne, q⟩ := q
      exact ⟨xs, e, ne, fun M h1 h2 => h _ (q M h1 h2)⟩
    · exact q
def gSum : GC := fun ds k => match ds with
  | [.list es] => ∃ xs : List Int, es = xs.map .int ∧ k (.dat (.int xs.sum))
  | _ => False
theorem cd_sum (hc : X.calm = true) : CallD X (.builtin "sum") gSum := by
  refine ⟨⟨_, cr_sum hc, fun H ds vs Q nd q => ?_⟩, fun ds k k' h q => ?_⟩
  · unfold gSum at q
    split at q
    · obtain ⟨xs, rfl, q⟩ := q
      obtain ⟨v, rfl, n⟩ := pr1 nd
      obtain ⟨a, ws, rfl, h1, h2⟩ := n.list
      rw [h2.ints] at h1
      exact ⟨a, xs, rfl, h1, q _ H (same_refl H) rfl⟩
    · exact q.elim
  · unfold gSum at q ⊢
    split at q
    · obtain ⟨xs, e, q⟩ := q
      exact ⟨xs, e, h _ q⟩
    · exact q

/-! ### list(range(..)), tuple(range(..)) -/
variable {a b e : Expr} {ta tb t : TD} {p p2 pos pos2 : Pos}
def rgD (a b : Int) : List D := (List.range (b - a).toNat).map fun i => .int (a + (i : Nat))
theorem reps_rg {K : PySem.W.Frag} {H : Hp} (a b : Int) : Reps K H (rgD a b) (rgV a b) := by
  unfold rgD rgV
  have go : ∀ l : List Nat, Reps K H (l.map fun i => PyData.int (a + (i : Nat))) (l.map fun i => V.int (a + (i : Nat))) := fun l => by
    induction l with
    | nil => exact rfl
    | cons x l ih => exact ⟨_, _, rfl, rfl, ih⟩
  exact go _
abbrev TRD := G → (Int → Int → G → Prop) → Prop
structure PRD (X : Cx) (e : Expr) (t : TRD) : Prop where
  run : PRg X e fun σ H Q => ∃ Γ, RG X.K H σ Γ ∧ t Γ fun i j Γ' => ∀ H', Aft X.K H Γ H' σ Γ' → Q i j H'
  mono : ∀ Γ (Q Q' : Int → Int → G → Prop), (∀ i j Γ', Q i j Γ' → Q' i j Γ') → t Γ Q → t Γ Q'
def trg1 (ta : TD) : TRD := fun Γ Q => ta Γ fun r Γ' => match r with
  | .fz (.int n) => Q 0 n Γ'
  | _ => False
def trg2 (ta tb : TD) : TRD := fun Γ Q => ta Γ fun r Γ1 => match r with
  | .fz (.int i) => tb Γ1 fun r' Γ2 => (match r' with
    | .fz (.int j) => Q i j Γ2
    | _ => False)
  | _ => False
theorem PRg.imp {e : Expr} {t t' : L2.St → Hp → (Int → Int → Hp → Prop) → Prop} (h : PRg X e t) (hi : ∀ σ H Q, t' σ H Q → t σ H Q) : PRg X e t' := by
  intro pins s σ H Q I q
  exact h pins s σ H Q I (hi _ _ _ q)
theorem prd1 (hg : Gl X "range") (hm : X.mg "range" = none) (ha : PD X a ta) (na : starEach [a] X.env = (false, eval a X.env) :: starEach [] X.env := by rfl) : PRD X (.Call (.Name "range" p) [a] [] pos) (trg1 ta) := by
  refine ⟨PRg.imp (prg_1 hg hm ha.run na) fun σ H Q ⟨Γ, g, q⟩ => ⟨Γ, g, ha.mono _ _ _ (fun r Γ' q => ?_) q⟩, fun Γ Q Q' h => ha.mono _ _ _ fun r Γ' q => ?_⟩
  · intro v H' af rs
    split at q
    · exact ⟨_, rs, q H' af⟩
    · exact q.elim
  · split at q
    · exact h _ _ _ q
    · exact q
theorem prd2 (hg : Gl X "range") (hm : X.mg "range" = none) (ha : PD X a ta) (hb : PD X b tb) (na : starEach [a, b] X.env = (false, eval a X.env) :: starEach [b] X.env := by rfl) (nb : starEach [b] X.env = (false, eval b X.env) :: starEach [] X.env := by rfl)
    (hpl : (backTo pos (starEach [b] X.env)).any (·.1) = false := by rfl) : PRD X (.Call (.Name "range" p) [a, b] [] pos) (trg2 ta tb) := by
  refine ⟨PRg.imp (prg_2 hg hm ha.run hb.run na nb hpl) fun σ H Q ⟨Γ, g, q⟩ => ⟨Γ, g, ha.mono _ _ _ (fun r Γ1 q => ?_) q⟩, fun Γ Q Q' h => ha.mono _ _ _ fun r Γ1 q => ?_⟩
  · intro v H1 a1 r1
    split at q
    · refine ⟨Γ1, a1.rg, hb.mono _ _ _ (fun r' Γ2 q => ?_) q⟩
      intro u H2 a2 r2
      split at q
      · exact ⟨_, _, r1, r2, q H2 (a1.trans g a2)⟩
      · exact q.elim
    · exact q.elim
  · split at q
    · refine hb.mono _ _ _ (fun r' Γ2 q => ?_) q
      split at q
      · exact h _ _ _ q
      · exact q
    · exact q
def tdLstRg (t : TRD) : TD := fun Γ Q => t Γ fun i j Γ' => RgOk i j ∧ ∀ p, Q (.ow p (.lst (rgD i j))) Γ'
def tdTupRg (t : TRD) : TD := fun Γ Q => t Γ fun i j Γ' => RgOk i j ∧ Q (.fz (.tuple (rgD i j))) Γ'
variable {tr : TRD}
theorem pd_listRg (hc : X.calm = true) (hg : Gl X "list") (hm : X.mg "list" = none) (he : PRD X e tr) (na : starEach [e] X.env = (false, eval e X.env) :: starEach [] X.env := by rfl) : PD X (.Call (.Name "list" p) [e] [] pos) (tdLstRg tr) := by
  refine ⟨PE.imp (pe_listRg hc hg hm he.run na) fun σ H Q ⟨Γ, g, q⟩ => ⟨Γ, g, he.mono _ _ _ (fun i j Γ' q => ?_) q⟩, fun Γ Q Q' hq => he.mono _ _ _ fun i j Γ' q => ⟨q.1, fun p => hq _ _ (q.2 p)⟩⟩
  intro H' af
  refine ⟨q.1, fun p hp => ?_⟩
  have sm := same_upd (o := .lst (rgV i j)) hp
  exact q.2 p _ _ (af.trans g (Aft.same af.rg sm)) ⟨rfl, ⟨_, upd_same, reps_rg i j⟩, fun z => af.rg.there z hp, af.fresh (.inr hp)⟩
theorem pd_tupRg (hc : X.calm = true) (hg : Gl X "tuple") (hm : X.mg "tuple" = none) (he : PRD X e tr) (na : starEach [e] X.env = (false, eval e X.env) :: starEach [] X.env := by rfl) : PD X (.Call (.Name "tuple" p) [e] [] pos) (tdTupRg tr) := by
  refine ⟨PE.imp (pe_tupRg hc hg hm he.run na) fun σ H Q ⟨Γ, g, q⟩ => ⟨Γ, g, he.mono _ _ _ (fun i j Γ' q => ?_) q⟩, fun Γ Q Q' hq => he.mono _ _ _ fun i j Γ' q => ⟨q.1, hq _ _ q.2⟩⟩
  intro H' af
  refine ⟨q.1, fun p hp => ?_⟩
  have sm := same_upd (o := .tup (rgV i j)) hp
  exact q.2 _ _ (af.trans g (Aft.same af.rg sm)) ⟨p, _, rfl, .inl upd_same, reps_rg i j⟩

/-! ### isinstance of a built-in class -/
def tyName : D → String
  | .none => "NoneType"
  | .bool _ => "bool"
  | .int _ => "int"
  | .str _ => "str"
  | .list _ => "list"
  | .tuple _ => "tuple"
  | .dict _ => "dict"
def tdIsi (T : String) (ta : TD) : TD := fun Γ Q => ta Γ fun r Γ' => dat Γ' r fun d => ∃ k, kitB (tyName d) T = some k ∧ Q (.fz (.bool k)) Γ'
theorem RepN.ty {K : PySem.W.Frag} {H : Hp} : ∀ {d : D} {v : V}, RepN K H d v → TyX K H v (.type (tyName d))
  | .none, _, h => by rw [h.none]; exact .base .non
  | .bool _, _, h => by rw [h.bool]; exact .base (.bl _)
  | .int _, _, h => by rw [h.int]; exact .base (.int _)
  | .str _, _, h => by rw [h.str.1]; exact .base (.str _)
  | .list _, _, h => by
    obtain ⟨a, vs, rfl, h1, _⟩ := h.list
    rcases h1 with (h1 | ⟨o, h1⟩) | ⟨o, its, n, h1, h2, _⟩
    · exact .base (.lst h1)
    · exact .base (.frz h1)
    · exact .kList h1 h2
  | .tuple _, _, h => by
    obtain ⟨a, vs, rfl, h1, _⟩ := h.tuple
    rcases h1 with h1 | ⟨o, its, n, h1, h2, _⟩
    · exact .base (.tup h1)
    · exact .kTuple h1 h2
  | .dict _, _, h => by
    rcases h with ⟨ds, a, vs, e, _⟩ | h
    · cases e
    · exact (show False from h).elim
theorem pd_isi {T : String} {x : Str} (hg : Gl X "isinstance") (hm : X.mg "isinstance" = none) (hgT : Gl X x) (hmT : X.mg x = none) (hvT : bootBuiltins x = some (.type T)) (ha : PD X a ta)
    (hnT : x ≠ "__name__" := by decide) (hdT : (x == ("__debug__" : Str)) = false := by decide) (hv : bootBuiltins "isinstance" = some (.builtin "isinstance") := by decide +kernel)
    (na : starEach [a, .Name x p2] X.env = (false, eval a X.env) :: starEach [.Name x p2] X.env := by rfl) (nb : starEach [Expr.Name x p2] X.env = (false, eval (.Name x p2) X.env) :: starEach [] X.env := by rfl)
    (hpl : (backTo pos (starEach [Expr.Name x p2] X.env)).any (·.1) = false := by rfl) : PD X (.Call (.Name "isinstance" p) [a, .Name x p2] [] pos) (tdIsi T ta) := by
  have hT : PE X (.Name x p2) (tC (.ty T)) := pe_bltn hgT hmT hvT rfl hnT hdT
  refine ⟨PE.imp (pe_callB call_isi hg hm hv (pa_cons ha.run (pa_cons hT pa_nil nb) na) (by decide) (by decide) na hpl) fun σ H Q ⟨Γ, g, q⟩ => ⟨Γ, g, ha.mono _ _ _ (fun r Γ' q => ?_) q⟩, fun Γ Q Q' hq => ha.mono _ _ _ fun r Γ' => dat_mono fun d ⟨k, e, q⟩ => ⟨k, e, hq _ _ q⟩⟩
  intro v H' af rs
  obtain ⟨d, nd, k, e, q⟩ := dat_ok af.rg rs q
  exact ⟨v, .ty T, _, _, k, rfl, .ty T, nd.ty, kit_ty e, q _ H' af rfl⟩
end
end DL
/-! DL6: calls of defs, a def's promise over data; statements; while. -/
namespace DL
open PySem PySem.Spec PyProof.Rows L2

/-! ### a def's promise -/
/-- an exception of one's own: its class, its fields -/
structure XD where
  cls : Value
  fs : List (Str × D)
def XOk (K : PySem.W.Frag) (H : Hp) (x : XD) (c : Value) (d : Option Addr) : Prop :=
  c = x.cls ∧ (x.fs = [] ∨ ∃ a vs, d = some a ∧ H a = some (.xd vs) ∧ ∀ f e, x.fs.lookup f = some e → ∃ v, vs.lookup f = some v ∧ Rep K H e v)
abbrev SpD := G → (SV → G → Prop) → (XD → G → Prop) → Prop
def liftSp (K : PySem.W.Frag) (n : Nat) (sp : SpD) : Sp := fun vs H Q E => vs.length = n ∧ ∃ Γ, RG K H (vs.map some) Γ ∧ sp Γ
  (fun r Γ' => ∀ v H', Aft K H Γ H' (vs.map some) Γ' → Res K H (vs.map some) Γ H' Γ' v r → Q v H')
  (fun x Γ' => ∀ c d H', Aft K H Γ H' (vs.map some) Γ' → XOk K H' x c d → E c d H')
def isBw : SV → Bool
  | .bw _ => true
  | _ => false
def argOf (Γ : G) : SV → SV
  | .bw i => Γ.getD i .no
  | .ow _ _ => .no
  | r => r
/-- each slot is lent once -/
def bwIx : SV → Option Nat
  | .bw i => some i
  | _ => none
def bwOk (rs : List SV) : Bool := decide (rs.filterMap bwIx).Nodup
def wback (Γ : G) : List SV → G → G
  | [], _ => Γ
  | .bw i :: rs, Γa => (wback Γ rs Γa.tail).set i (Γa.headD .no)
  | _ :: rs, Γa => wback Γ rs Γa.tail
def tdCall (sp : SpD) (t : TAD) : TD := fun Γ Q => t Γ fun rs Γ1 => bwOk rs = true ∧ sp (rs.map (argOf Γ1)) (fun r Γa => isBw r = false ∧ Q r (wback Γ1 rs Γa)) (fun _ _ => False)
def MonoSp (sp : SpD) : Prop := ∀ Γ Q Q' E E', (∀ r Γ', Q r Γ' → Q' r Γ') → (∀ x Γ', E x Γ' → E' x Γ') → sp Γ Q E → sp Γ Q' E'

theorem wback_at {Γ : G} {i : Nat} {s : SV} : ∀ {rs : List SV} {Γa : G}, (rs.filterMap bwIx).Nodup → (wback Γ rs Γa)[i]? = some s → (Γ[i]? = some s ∧ ∀ j : Nat, rs[j]? ≠ some (.bw i)) ∨ ∃ j : Nat, rs[j]? = some (.bw i) ∧ (Γa[j]? = some s ∨ s = .no)
  | [], Γa, _, h => .inl ⟨h, fun j => by simp⟩
  | .bw k :: rs, Γa, nd, h => by
    have nd' : k ∉ rs.filterMap bwIx ∧ (rs.filterMap bwIx).Nodup := by simpa [List.filterMap_cons, bwIx] using nd
    have h' : ((wback Γ rs Γa.tail).set k (Γa.headD .no))[i]? = some s := h
    by_cases e : i = k
    · subst e
      refine .inr ⟨0, rfl, ?_⟩
      have hi : i < (wback Γ rs Γa.tail).length := by
        rcases Nat.lt_or_ge i (wback Γ rs Γa.tail).length with z | z
        · exact z
        · rw [List.getElem?_eq_none (by rw [List.length_set]; exact z)] at h'; cases h'
      rw [List.getElem?_set_self hi] at h'
      cases Γa with
      | nil => exact .inr (Option.some.inj h').symm
      | cons x l => exact .inl (by simpa using h')
    · rw [List.getElem?_set_ne (Ne.symm e)] at h'
      rcases wback_at nd'.2 h' with ⟨z1, z2⟩ | ⟨j, z1, z2⟩
      · refine .inl ⟨z1, fun j => ?_⟩
        cases j with
        | zero => intro z; simp at z; exact e z.symm
        | succ j => simpa using z2 j
      · refine .inr ⟨j + 1, by simpa using z1, ?_⟩
        rcases z2 with z2 | z2
        · refine .inl ?_
          cases Γa with
          | nil => simp at z2
          | cons x l => simpa using z2
        · exact .inr z2
  | .no :: rs, Γa, nd, h => wback_tail (by intro z; cases z) (by simpa [List.filterMap_cons, bwIx] using nd) h
  | .fz d :: rs, Γa, nd, h => wback_tail (by intro z; cases z) (by simpa [List.filterMap_cons, bwIx] using nd) h
  | .ow p o :: rs, Γa, nd, h => wback_tail (by intro z; cases z) (by simpa [List.filterMap_cons, bwIx] using nd) h
  | .raw v :: rs, Γa, nd, h => wback_tail (by intro z; cases z) (by simpa [List.filterMap_cons, bwIx] using nd) h
where
  wback_tail {Γ : G} {i : Nat} {s r : SV} {rs : List SV} {Γa : G} (hr : r ≠ .bw i) (nd : (rs.filterMap bwIx).Nodup) (h : (wback Γ rs Γa.tail)[i]? = some s) : (Γ[i]? = some s ∧ ∀ j : Nat, (r :: rs)[j]? ≠ some (.bw i)) ∨ ∃ j : Nat, (r :: rs)[j]? = some (.bw i) ∧ (Γa[j]? = some s ∨ s = .no) := by
    rcases wback_at nd h with ⟨z1, z2⟩ | ⟨j, z1, z2⟩
    · refine .inl ⟨z1, fun j => ?_⟩
      cases j with
      | zero => intro z; exact hr (by simpa using z)
      | succ j => simpa using z2 j
    · refine .inr ⟨j + 1, by simpa using z1, ?_⟩
      rcases z2 with z2 | z2
      · refine .inl ?_
        cases Γa with
        | nil => simp at z2
        | cons x l => simpa using z2
      · exact .inr z2
theorem wback_len {Γ : G} : ∀ {rs : List SV} {Γa : G}, (wback Γ rs Γa).length = Γ.length
  | [], _ => rfl
  | .bw k :: rs, Γa => by
    show ((wback Γ rs Γa.tail).set k (Γa.headD .no)).length = _
    rw [List.length_set, wback_len]
  | .no :: rs, Γa => wback_len (rs := rs)
  | .fz _ :: rs, Γa => wback_len (rs := rs)
  | .ow _ _ :: rs, Γa => wback_len (rs := rs)
  | .raw _ :: rs, Γa => wback_len (rs := rs)
theorem Ress.get {K : PySem.W.Frag} {H H' : Hp} {σ : Sl} {Γ Γ' : G} : ∀ {rs : List SV} {vs : List V} {j : Nat} {r : SV}, Ress K H σ Γ H' Γ' rs vs → rs[j]? = some r → ∃ v, vs[j]? = some v ∧ Res K H σ Γ H' Γ' v r
  | [], _, _, _, _, e => by simp at e
  | x :: rs, _, 0, r, h, e => by
    obtain ⟨v, w, rfl, h1, h2⟩ := h
    simp only [List.getElem?_cons_zero, Option.some.injEq] at e
    subst e
    exact ⟨v, rfl, h1⟩
  | x :: rs, _, j + 1, r, h, e => by
    obtain ⟨v, w, rfl, h1, h2⟩ := h
    simp only [List.getElem?_cons_succ] at e
    obtain ⟨u, e1, e2⟩ := Ress.get h2 e
    exact ⟨u, by simpa using e1, e2⟩
theorem Ress.len {K : PySem.W.Frag} {H H' : Hp} {σ : Sl} {Γ Γ' : G} : ∀ {rs : List SV} {vs : List V}, Ress K H σ Γ H' Γ' rs vs → vs.length = rs.length
  | [], _, h => by rw [show _ = [] from h]; rfl
  | _ :: _, _, h => by
    obtain ⟨v, w, rfl, _, h2⟩ := h
    simp only [List.length_cons, Ress.len h2]
/-- which slot an argument of one's own comes from -/
theorem arg_own {Γ : G} {rs : List SV} {j : Nat} {p : Addr} {o : O} (h : (rs.map (argOf Γ))[j]? = some (.ow p o)) : ∃ i, rs[j]? = some (.bw i) ∧ Γ[i]? = some (.ow p o) := by
  rw [List.getElem?_map] at h
  cases e : rs[j]? with
  | none => rw [e] at h; cases h
  | some r =>
    rw [e] at h
    have h : argOf Γ r = .ow p o := Option.some.inj h
    cases r with
    | bw i =>
      refine ⟨i, rfl, ?_⟩
      have h : Γ.getD i .no = .ow p o := h
      rw [List.getD_eq_getElem?_getD] at h
      cases q : Γ[i]? with
      | none => rw [q] at h; cases h
      | some s => rw [q] at h; simpa using h
    | no => cases h
    | fz d => cases h
    | ow _ _ => cases h
    | raw _ => cases h
theorem nodup_ix {rs : List SV} : ∀ {j j' i : Nat}, (rs.filterMap bwIx).Nodup → rs[j]? = some (.bw i) → rs[j']? = some (.bw i) → j = j' := by
  induction rs with
  | nil => intro j j' i _ h; simp at h
  | cons r rs ih =>
    intro j j' i nd h h'
    have mem : ∀ {m : Nat}, rs[m]? = some (.bw i) → i ∈ rs.filterMap bwIx := fun {m} e => List.mem_filterMap.mpr ⟨.bw i, List.mem_of_getElem? e, rfl⟩
    have nd2 : (rs.filterMap bwIx).Nodup := by
      cases r <;> simp [List.filterMap_cons, bwIx] at nd <;> first | exact nd | exact nd.2
    have hd : r = .bw i → i ∉ rs.filterMap bwIx := fun e => by
      subst e
      simp [List.filterMap_cons, bwIx] at nd
      simpa [bwIx] using nd.1
    cases j with
    | zero =>
      cases j' with
      | zero => rfl
      | succ j' =>
        simp only [List.getElem?_cons_zero, Option.some.injEq] at h
        simp only [List.getElem?_cons_succ] at h'
        exact absurd (mem h') (hd h)
    | succ j =>
      cases j' with
      | zero =>
        simp only [List.getElem?_cons_zero, Option.some.injEq] at h'
        simp only [List.getElem?_cons_succ] at h
        exact absurd (mem h) (hd h')
      | succ j' =>
        simp only [List.getElem?_cons_succ] at h h'
        rw [ih nd2 h h']
section
variable {K : PySem.W.Frag} {H H1 H2 : Hp} {σ : Sl} {Γ Γ1 Γa : G} {rs : List SV} {vs : List V}
theorem rg_args (g1 : RG K H1 σ Γ1) (rr : Ress K H σ Γ H1 Γ1 rs vs) (nd : (rs.filterMap bwIx).Nodup) : RG K H1 (vs.map some) (rs.map (argOf Γ1)) := by
  have at_ : ∀ {j : Nat} {s : SV}, (rs.map (argOf Γ1))[j]? = some s → ∃ r v, rs[j]? = some r ∧ vs[j]? = some v ∧ s = argOf Γ1 r ∧ Res K H σ Γ H1 Γ1 v r := fun {j s} e => by
    rw [List.getElem?_map] at e
    cases q : rs[j]? with
    | none => rw [q] at e; cases e
    | some r =>
      rw [q] at e
      obtain ⟨v, e1, e2⟩ := rr.get q
      exact ⟨r, v, rfl, e1, (Option.some.inj e).symm, e2⟩
  have getd : ∀ {i : Nat} {s : SV}, Γ1.getD i .no = s → s ≠ .no → Γ1[i]? = some s := fun {i s} e n => by
    rw [List.getD_eq_getElem?_getD] at e
    cases q : Γ1[i]? with
    | none => rw [q] at e; exact absurd e.symm n
    | some s' => rw [q] at e; rw [← e]; rfl
  have ev : ∀ {j : Nat} {v : V}, vs[j]? = some v → (vs.map some)[j]? = some (some v) := fun {j v} e => by rw [List.getElem?_map, e]; rfl
  refine ⟨by rw [List.length_map, List.length_map, rr.len], fun j d e => ?_, fun j p o e => ?_, fun j v e => ?_, fun j j' p o o' e e' => ?_⟩
  · obtain ⟨r, v, h1, h2, h3, h4⟩ := at_ e
    refine ⟨v, ev h2, ?_⟩
    cases r with
    | bw i =>
      have q := getd h3.symm (by intro z; cases z)
      obtain ⟨u, z1, z2⟩ := g1.fz _ _ q
      have := (show σ[i]? = some (some v) from h4).symm.trans z1
      cases this; exact z2
    | fz d' => cases h3; exact h4
    | no => cases h3
    | ow _ _ => cases h3
    | raw _ => cases h3
  · obtain ⟨i, h1, h2⟩ := arg_own e
    obtain ⟨v, e1, e2⟩ := rr.get h1
    obtain ⟨z1, z2⟩ := g1.ow _ _ _ h2
    have := (show σ[i]? = some (some v) from e2).symm.trans z1
    cases this
    exact ⟨ev e1, z2⟩
  · obtain ⟨r, u, h1, h2, h3, h4⟩ := at_ e
    cases r with
    | bw i =>
      have q := getd h3.symm (by intro z; cases z)
      have := (show σ[i]? = some (some u) from h4).symm.trans (g1.raw _ _ q)
      cases this; exact ev h2
    | raw v' =>
      cases h3
      rw [show u = v from h4] at h2
      exact ev h2
    | no => cases h3
    | ow _ _ => cases h3
    | fz _ => cases h3
  · obtain ⟨i, h1, h2⟩ := arg_own e
    obtain ⟨i', h1', h2'⟩ := arg_own e'
    have := g1.one _ _ _ _ _ h2 h2'
    subst this
    exact nodup_ix nd h1 h1'
theorem own_args {p : Addr} (h : own (rs.map (argOf Γ1)) p) : ∃ (i j : Nat) (o : O), rs[j]? = some (.bw i) ∧ Γ1[i]? = some (.ow p o) := by
  obtain ⟨j, o, e⟩ := h
  obtain ⟨i, h1, h2⟩ := arg_own e
  exact ⟨i, j, o, h1, h2⟩
/-- behind a call: the slots lent hold what they hold now -/
theorem rg_wback (g1 : RG K H1 σ Γ1) (rr : Ress K H σ Γ H1 Γ1 rs vs) (nd : (rs.filterMap bwIx).Nodup) (a : Aft K H1 (rs.map (argOf Γ1)) H2 (vs.map some) Γa) :
    Aft K H1 Γ1 H2 σ (wback Γ1 rs Γa) ∧ ∀ p, own (wback Γ1 rs Γa) p → (own Γ1 p ∧ ¬ own (rs.map (argOf Γ1)) p) ∨ own Γa p := by
  have ga := rg_args g1 rr nd
  have im := a.imm ga
  have sub : ∀ {p}, own (rs.map (argOf Γ1)) p → own Γ1 p := fun h => let ⟨i, j, o, h1, h2⟩ := own_args h; ⟨i, o, h2⟩
  have kept : ∀ {i : Nat} {p : Addr} {o : O}, Γ1[i]? = some (.ow p o) → (∀ j : Nat, rs[j]? ≠ some (.bw i)) → ¬ own (rs.map (argOf Γ1)) p := fun {i p o} e n h => by
    obtain ⟨i', j, o', h1, h2⟩ := own_args h
    have := g1.one _ _ _ _ _ e h2
    subst this
    exact n j h1
  have val : ∀ {i j : Nat}, rs[j]? = some (.bw i) → ∃ v, vs[j]? = some v ∧ σ[i]? = some (some v) ∧ (vs.map some)[j]? = some (some v) := fun {i j} e => by
    obtain ⟨v, e1, e2⟩ := rr.get e
    exact ⟨v, e1, e2, by rw [List.getElem?_map, e1]; rfl⟩
  have ow2 : ∀ {p}, own (wback Γ1 rs Γa) p → (own Γ1 p ∧ ¬ own (rs.map (argOf Γ1)) p) ∨ own Γa p := fun {p} ⟨i, o, e⟩ => by
    rcases wback_at nd e with ⟨z1, z2⟩ | ⟨j, z1, z2⟩
    · exact .inl ⟨⟨i, o, z1⟩, kept z1 z2⟩
    · rcases z2 with z2 | z2
      · exact .inr ⟨j, o, z2⟩
      · cases z2
  refine ⟨⟨fun c u e n => a.keep c u e fun z => n (sub z), ⟨by rw [wback_len]; exact g1.len, fun i d e => ?_, fun i p o e => ?_, fun i v e => ?_, fun i i' p o o' e e' => ?_⟩, fun c h => ?_⟩, fun p => ow2⟩
  · rcases wback_at nd e with ⟨z1, z2⟩ | ⟨j, z1, z2⟩
    · obtain ⟨v, q1, q2⟩ := g1.fz _ _ z1
      exact ⟨v, q1, q2.imm im⟩
    · rcases z2 with z2 | z2
      · obtain ⟨v, q1, q2⟩ := a.rg.fz _ _ z2
        obtain ⟨u, w1, w2, w3⟩ := val z1
        rw [w3] at q1; cases q1
        exact ⟨_, w2, q2⟩
      · cases z2
  · rcases wback_at nd e with ⟨z1, z2⟩ | ⟨j, z1, z2⟩
    · obtain ⟨q1, q2⟩ := g1.ow _ _ _ z1
      exact ⟨q1, q2.keep (fun u h => a.keep _ _ h (kept z1 z2)) im⟩
    · rcases z2 with z2 | z2
      · obtain ⟨q1, q2⟩ := a.rg.ow _ _ _ z2
        obtain ⟨u, w1, w2, w3⟩ := val z1
        rw [w3] at q1; cases q1
        exact ⟨w2, q2⟩
      · cases z2
  · rcases wback_at nd e with ⟨z1, z2⟩ | ⟨j, z1, z2⟩
    · exact g1.raw _ _ z1
    · rcases z2 with z2 | z2
      · have q1 := a.rg.raw _ _ z2
        obtain ⟨u, w1, w2, w3⟩ := val z1
        rw [w3] at q1; cases q1
        exact w2
      · cases z2
  · have cross : ∀ {i j : Nat} {p : Addr} {o o' : O}, Γ1[i]? = some (.ow p o) → (∀ j : Nat, rs[j]? ≠ some (.bw i)) → Γa[j]? = some (.ow p o') → False := fun {i j p o o'} z1 z2 z3 => by
      rcases a.sh p ⟨j, o', z3⟩ with q | q
      · exact kept z1 z2 q
      · exact g1.there ⟨i, o, z1⟩ q
    rcases wback_at nd e with ⟨z1, z2⟩ | ⟨j, z1, z2⟩
    · rcases wback_at nd e' with ⟨z1', z2'⟩ | ⟨j', z1', z2'⟩
      · exact g1.one _ _ _ _ _ z1 z1'
      · rcases z2' with z2' | z2'
        · exact (cross z1 z2 z2').elim
        · cases z2'
    · rcases z2 with z2 | z2
      · rcases wback_at nd e' with ⟨z1', z2'⟩ | ⟨j', z1', z2'⟩
        · exact (cross z1' z2' z2).elim
        · rcases z2' with z2' | z2'
          · have := a.rg.one _ _ _ _ _ z2 z2'
            subst this
            rw [z1] at z1'; cases z1'; rfl
          · cases z2'
      · cases z2
  · rcases ow2 h with ⟨q, _⟩ | q
    · exact .inl q
    · rcases a.sh c q with z | z
      · exact .inl (sub z)
      · exact .inr z
end
section
variable {X : Cx} {CX : CXT} {k : Nat} {f : Addr} {fd : FuncData} {ps : List Str} {sp : SpD} {ds : List Value} {dvs : List V} {x : Str} {p pos : Pos} {e : Expr} {es : List Expr} {t : TAD}
theorem call_ok (ms : MonoSp sp) {n : Nat} {dD : List D} {EX : XK} (hdD : ∀ H, Reps X.K H dD dvs) {σ : Sl} {H : Hp} {Q : VK} {Γ Γ1 : G} {H1 : Hp} {rs : List SV} {vs : List V} (g : RG X.K H σ Γ) (a1 : Aft X.K H Γ H1 σ Γ1) (rr : Ress X.K H σ Γ H1 Γ1 rs vs) (hn : (vs ++ dvs).length = n)
    (nd : bwOk rs = true) (q : sp (rs.map (argOf Γ1) ++ dD.map SV.fz) (fun r Γa => isBw r = false ∧ ∀ v H', Aft X.K H Γ H' σ (wback Γ1 rs Γa) → Res X.K H σ Γ H' (wback Γ1 rs Γa) v r → Q v H') (fun _ _ => False)) : liftSp X.K n sp (vs ++ dvs) H1 Q EX := by
  -- the given arguments and the defaults together
  have nd : (rs.filterMap bwIx).Nodup := of_decide_eq_true nd
  have rr2 : Ress X.K H σ Γ H1 Γ1 (rs ++ dD.map SV.fz) (vs ++ dvs) := by
    have go : ∀ {rs : List SV} {vs : List V}, Ress X.K H σ Γ H1 Γ1 rs vs → Ress X.K H σ Γ H1 Γ1 (rs ++ dD.map SV.fz) (vs ++ dvs) := by
      intro rs
      induction rs with
      | nil =>
        intro vs h
        rw [show vs = [] from h]
        have go2 : ∀ {dD : List D} {dvs : List V}, Reps X.K H1 dD dvs → Ress X.K H σ Γ H1 Γ1 (dD.map SV.fz) dvs := by
          intro dD
          induction dD with
          | nil => intro dvs h; exact h
          | cons d dD ih =>
            intro dvs h
            obtain ⟨v, w, e, h1, h2⟩ := h
            exact ⟨v, w, e, h1, ih h2⟩
        exact go2 (hdD H1)
      | cons r rs ih =>
        intro vs h
        obtain ⟨v, w, rfl, h1, h2⟩ := h
        exact ⟨v, _, rfl, h1, ih h2⟩
    exact go rr
  have nd2 : ((rs ++ dD.map SV.fz).filterMap bwIx).Nodup := by
    rw [List.filterMap_append]
    have : (dD.map SV.fz).filterMap bwIx = [] := by
      rw [List.filterMap_map]
      exact List.filterMap_eq_nil_iff.mpr fun d _ => rfl
    rw [this, List.append_nil]; exact nd
  have em : (rs ++ dD.map SV.fz).map (argOf Γ1) = rs.map (argOf Γ1) ++ dD.map SV.fz := by
    rw [List.map_append, List.map_map]; rfl
  have ew : ∀ Γa : G, wback Γ1 (rs ++ dD.map SV.fz) Γa = wback Γ1 rs Γa := by
    have go3 : ∀ (dD : List D) (Γa : G), wback Γ1 (dD.map SV.fz) Γa = Γ1 := by
      intro dD
      induction dD with
      | nil => intro Γa; rfl
      | cons d dD ih => intro Γa; exact ih _
    have go : ∀ (rs : List SV) (Γa : G), wback Γ1 (rs ++ dD.map SV.fz) Γa = wback Γ1 rs Γa := by
      intro rs
      induction rs with
      | nil => intro Γa; exact go3 dD Γa
      | cons r rs ih =>
        intro Γa
        cases r <;> first | exact ih _ | (show (wback Γ1 (rs ++ dD.map SV.fz) Γa.tail).set _ _ = (wback Γ1 rs Γa.tail).set _ _; rw [ih])
    exact go rs
  refine ⟨hn, (rs ++ dD.map SV.fz).map (argOf Γ1), rg_args a1.rg rr2 nd2, ?_⟩
  rw [em]
  refine ms _ _ _ _ _ (fun r Γa ⟨nb, q⟩ => ?_) (fun _ _ z => z.elim) q
  intro v H2 a2 r2
  rw [← em] at a2 r2
  obtain ⟨a3, ow3⟩ := rg_wback a1.rg rr2 nd2 a2
  rw [ew] at a3 ow3
  have sub : ∀ {p}, own ((rs ++ dD.map SV.fz).map (argOf Γ1)) p → own Γ1 p := fun h => let ⟨i, j, o, h1, h2⟩ := own_args h; ⟨i, o, h2⟩
  refine q v H2 (a1.trans g a3) ?_
  cases r with
  | no => trivial
  | fz d => exact r2
  | raw u => exact r2
  | bw i => cases nb
  | ow p o =>
    obtain ⟨e, w, n, fr⟩ := r2
    refine ⟨e, w, fun z => ?_, a1.fresh (fr.imp (fun z => sub z) id)⟩
    rcases ow3 p z with ⟨z1, z2⟩ | z
    · rcases fr with fr | fr
      · exact z2 fr
      · exact a1.rg.there z1 fr
    · exact n z
/-- f(e, ..): dD the defaults that fill up -/
def tdCallD (sp : SpD) (dD : List D) (t : TAD) : TD := fun Γ Q => t Γ fun rs Γ1 => bwOk rs = true ∧ sp (rs.map (argOf Γ1) ++ dD.map SV.fz) (fun r Γa => isBw r = false ∧ Q r (wback Γ1 rs Γa)) (fun _ _ => False)
theorem tdCallD_mono {dD : List D} (ms : MonoSp sp) (ma : MonoA t) : Mono (tdCallD sp dD t) := fun Γ Q Q' hq => ma _ _ _ fun rs Γ1 q => ⟨q.1, ms _ _ _ _ _ (fun r Γa z => ⟨z.1, hq _ _ z.2⟩) (fun _ _ z => z) q.2⟩
theorem pd_callD {n : Nat} {dD : List D} {EX : XK} (F : FnOk X.prog X.w X.K X.mg X.base CX k f fd ps (liftSp X.K n sp)) (ms : MonoSp sp) (hr : Room k X.A) (hg : Gl X x) (hm : X.mg x = some (.ref f)) (hk : PySem.W.keepIn X.K (.ref f) = true) (hb : Binds X.K fd ps ds) (hd : Vals dvs ds)
    (hdD : ∀ H, Reps X.K H dD dvs) (hx : Passes CX X EX) (ha : PAD X (e :: es) t) (hn : (e :: es).length + dD.length = n := by rfl)
    (hdb : (x == ("__debug__" : Str)) = false := by decide) (he : starEach (e :: es) X.env = (false, eval e X.env) :: starEach es X.env := by rfl) (hpl : (backTo pos (starEach es X.env)).any (·.1) = false := by rfl) : PD X (.Call (.Name x p) (e :: es) [] pos) (tdCallD sp dD t) := by
  refine ⟨PE.imp (pe_call F hr hg hm hk hb hd hx ha.run hdb he hpl) fun σ H Q ⟨Γ, g, q⟩ => ⟨Γ, g, ha.mono _ _ _ (fun rs Γ1 q => ?_) (ha.len _ _ q)⟩, tdCallD_mono ms ha.mono⟩
  intro vs H1 a1 rr
  exact call_ok ms hdD g a1 rr (by rw [List.length_append, rr.len, (hdD H1).len, q.1]; exact hn) q.2.1 q.2.2
end
end DL
/-! DL7: statements; targets; while; for; a def's body. -/
namespace DL
open PySem PySem.Spec PyProof.Rows L2

section
variable {K : PySem.W.Frag} {H H1 H' : Hp} {σ : Sl} {Γ Γ' Γ1 : G} {D D' : EndD}
/-- the slot i set -/
theorem rg_set {i : Nat} {v : V} {r : SV} (g : RG K H' σ Γ') (q : Res K H σ Γ H' Γ' v r) (nb : isBw r = false) : RG K H' (σ.set i (some v)) (Γ'.set i r) ∧ ∀ p, own (Γ'.set i r) p → own Γ' p ∨ ∃ o, r = .ow p o := by
  have at_ : ∀ (j : Nat) (s : SV), (Γ'.set i r)[j]? = some s → (j = i ∧ s = r ∧ i < Γ'.length) ∨ (j ≠ i ∧ Γ'[j]? = some s) := fun j s e => by
    by_cases z : j = i
    · subst z
      rcases Nat.lt_or_ge j Γ'.length with h | h
      · rw [List.getElem?_set_self h] at e
        exact .inl ⟨rfl, (Option.some.inj e).symm, h⟩
      · rw [List.getElem?_eq_none (by rw [List.length_set]; exact h)] at e; cases e
    · rw [List.getElem?_set_ne (Ne.symm z)] at e
      exact .inr ⟨z, e⟩
  have vi : i < Γ'.length → (σ.set i (some v))[i]? = some (some v) := fun h => by rw [List.getElem?_set_self (by rw [← g.len]; exact h)]
  have vo : ∀ {j : Nat} {u : Option V}, j ≠ i → σ[j]? = some u → (σ.set i (some v))[j]? = some u := fun n e => by rw [List.getElem?_set_ne (Ne.symm n)]; exact e
  refine ⟨⟨by rw [List.length_set, List.length_set]; exact g.len, fun j d e => ?_, fun j p o e => ?_, fun j u e => ?_, fun j j' p o o' e e' => ?_⟩, fun p ⟨j, o, e⟩ => ?_⟩
  · rcases at_ j _ e with ⟨rfl, z, h⟩ | ⟨n, z⟩
    · subst z; exact ⟨v, vi h, q⟩
    · obtain ⟨u, z1, z2⟩ := g.fz _ _ z
      exact ⟨u, vo n z1, z2⟩
  · rcases at_ j _ e with ⟨rfl, z, h⟩ | ⟨n, z⟩
    · subst z
      obtain ⟨rfl, z2, _⟩ := q
      exact ⟨vi h, z2⟩
    · obtain ⟨z1, z2⟩ := g.ow _ _ _ z
      exact ⟨vo n z1, z2⟩
  · rcases at_ j _ e with ⟨rfl, z, h⟩ | ⟨n, z⟩
    · subst z
      rw [show v = u from q] at vi
      rw [show v = u from q]
      exact vi h
    · exact vo n (g.raw _ _ z)
  · rcases at_ j _ e with ⟨h1, z, h⟩ | ⟨n, z⟩
    · rcases at_ j' _ e' with ⟨h2, z', h'⟩ | ⟨n', z'⟩
      · rw [h1, h2]
      · subst z
        exact absurd ⟨j', o', z'⟩ q.2.2.1
    · rcases at_ j' _ e' with ⟨h2, z', h'⟩ | ⟨n', z'⟩
      · subst z'
        exact absurd ⟨j, o, z⟩ q.2.2.1
      · exact g.one _ _ _ _ _ z z'
  · rcases at_ j _ e with ⟨_, z, _⟩ | ⟨n, z⟩
    · exact .inr ⟨o, z.symm⟩
    · exact .inl ⟨j, o, z⟩
theorem aft_set {i : Nat} {v : V} {r : SV} (a : Aft K H Γ H' σ Γ') (q : Res K H σ Γ H' Γ' v r) (nb : isBw r = false) : Aft K H Γ H' (σ.set i (some v)) (Γ'.set i r) := by
  obtain ⟨g, ow⟩ := rg_set (i := i) a.rg q nb
  refine ⟨a.keep, g, fun p h => ?_⟩
  rcases ow p h with h | ⟨o, rfl⟩
  · exact a.sh p h
  · exact q.2.2.2
end
section
variable {X : Cx} {st : Stmt} {rest : List Stmt} {t u : TSD} {e : Expr} {te : TD} {pos : Pos}

/-! ### blocks -/
def tsNext : TSD := fun D Γ => D.nx Γ
def tsSeq (t u : TSD) : TSD := fun D Γ => t { D with nx := u D } Γ
theorem EndD.Le.nxt {D D' : EndD} (h : D.Le D') {u : TSD} (m : MonoS u) : EndD.Le { D with nx := u D } { D' with nx := u D' } := ⟨fun Γ q => m _ _ _ h q, h.rt, h.bk, h.ct⟩
theorem pds_nil : PDSs X [] tsNext := ⟨PSs.imp pss_nil fun D σ H ⟨Γ, g, q⟩ => q σ H (Aft.refl g), fun D D' Γ h q => h.nx _ q⟩
/-- the ends of later code, from further on -/
theorem liftD_le {K : PySem.W.Frag} {H H1 : Hp} {σ σ1 : Sl} {Γ Γ1 : G} {D : Ends} (g : RG K H σ Γ) (a : Aft K H Γ H1 σ1 Γ1) : (liftD K Γ H D).Le (liftD K Γ1 H1 D) where
  nx := fun Γ' q σ' H' a' => q σ' H' (a.trans g a')
  rt := fun r Γ' q v σ' H' a' r' => q v σ' H' (a.trans g a') (r'.from a)
  bk := fun Γ' q σ' H' a' => q σ' H' (a.trans g a')
  ct := fun Γ' q σ' H' a' => q σ' H' (a.trans g a')
theorem pds_cons (h1 : PDS X st t) (h2 : PDSs X rest u) : PDSs X (st :: rest) (tsSeq t u) := by
  refine ⟨PSs.imp (pss_cons h1.run h2.run) fun D σ H ⟨Γ, g, q⟩ => ⟨Γ, g, h1.mono _ _ _ ?_ q⟩, fun D D' Γ h q => h1.mono _ _ _ (h.nxt h2.mono) q⟩
  refine ⟨fun Γ1 q σ1 H1 a1 => ?_, fun r Γ' q => q, fun Γ' q => q, fun Γ' q => q⟩
  exact ⟨Γ1, a1.rg, h2.mono _ _ _ (liftD_le g a1) q⟩
theorem pds_one (h1 : PDS X st t) : PDSs X [st] t := ⟨pss_one h1.run, h1.mono⟩
def tsNever : TSD := fun _ _ => False
theorem pd_never : PDS X st tsNever := ⟨PS.imp ps_never fun D σ H ⟨Γ, g, q⟩ => q.elim, fun _ _ _ _ q => q⟩
theorem pds_never {sts : List Stmt} : PDSs X sts tsNever := ⟨PSs.imp pss_never fun D σ H ⟨Γ, g, q⟩ => q.elim, fun _ _ _ _ q => q⟩
theorem pd_pass : PDS X (.Pass pos) tsNext := ⟨PS.imp ps_pass fun D σ H ⟨Γ, g, q⟩ => q σ H (Aft.refl g), fun D D' Γ h q => h.nx _ q⟩
def tsBreak : TSD := fun D Γ => D.bk Γ
def tsCont : TSD := fun D Γ => D.ct Γ
theorem pd_break : PDS X (.Break pos) tsBreak := ⟨PS.imp ps_break fun D σ H ⟨Γ, g, q⟩ => q σ H (Aft.refl g), fun D D' Γ h q => h.bk _ q⟩
theorem pd_continue : PDS X (.Continue pos) tsCont := ⟨PS.imp ps_continue fun D σ H ⟨Γ, g, q⟩ => q σ H (Aft.refl g), fun D D' Γ h q => h.ct _ q⟩
/-- an expression whose value is dropped -/
def tsDrop (te : TD) : TSD := fun D Γ => te Γ fun _ Γ' => D.nx Γ'
theorem pd_expr (he : PD X e te) (hs : swapsWith e none pos.line X.env = pure false := by rfl) : PDS X (.Expr e pos) (tsDrop te) :=
  ⟨PS.imp (ps_expr he.run hs) fun D σ H ⟨Γ, g, q⟩ => ⟨Γ, g, he.mono _ _ _ (fun r Γ' q v H' a rs => q σ H' a) q⟩, fun D D' Γ h => he.mono _ _ _ fun r Γ' => h.nx _⟩
/-- return -/
def tsRet (te : TD) : TSD := fun D Γ => te Γ fun r Γ' => match r with
  | .bw i => (match Γ'[i]? with
    | some (.ow p o) => D.rt (.ow p o) (Γ'.set i .no)
    | _ => False)
  | r => D.rt r Γ'
theorem pd_ret (he : PD X e te) : PDS X (.Return (some e) pos) (tsRet te) := by
  refine ⟨PS.imp (ps_ret he.run) fun D σ H ⟨Γ, g, q⟩ => ⟨Γ, g, he.mono _ _ _ (fun r Γ' q v H' a rs => ?_) q⟩, fun D D' Γ h => he.mono _ _ _ fun r Γ' q => ?_⟩
  · split at q
    · split at q
      · rename_i p o e
        obtain ⟨z1, z2⟩ := a.rg.ow _ _ _ e
        have ev := (show σ[(_ : Nat)]? = some (some v) from rs).symm.trans z1
        cases ev
        obtain ⟨g1, n1⟩ := rg_drop a.rg (sv := .no) e (Imm.refl H') (fun _ _ _ z => z) (fun _ _ z => by cases z) (fun _ z => by cases z) (fun _ z => by cases z)
        exact q _ σ H' ⟨a.keep, g1, fun c z => a.sh c (n1 c z).1⟩ ⟨rfl, z2, fun z => (n1 _ z).2 rfl, a.sh p ⟨_, o, e⟩⟩
      · exact q.elim
    · exact q v σ H' a rs
  · split at q
    · split at q
      · exact h.rt _ _ q
      · exact q
    · exact h.rt _ _ q
def tsRetN : TSD := fun D Γ => D.rt (.fz .none) Γ
theorem pd_retN : PDS X (.Return none pos) tsRetN := ⟨PS.imp ps_retN fun D σ H ⟨Γ, g, q⟩ => q .non σ H (Aft.refl g) rfl, fun D D' Γ h q => h.rt _ _ q⟩
def tsIf (c : TB) (t u : TSD) : TSD := fun D Γ => c Γ fun b Γ' => Br b (t D Γ') (u D Γ')
theorem pd_if {c : Expr} {a b : List Stmt} {tc : TB} (hc : PB X c tc) (ha : PDSs X a t) (hb : PDSs X b u) : PDS X (.If c a b pos) (tsIf tc t u) := by
  refine ⟨PS.imp (ps_if hc.run ha.run hb.run) fun D σ H ⟨Γ, g, q⟩ => ⟨Γ, g, hc.mono _ _ _ (fun k Γ' q H' a => ?_) q⟩, fun D D' Γ h => hc.mono _ _ _ fun k Γ' q => ?_⟩
  · rw [br_iff] at q
    split at q
    · rename_i e; rw [if_pos e]; exact ⟨Γ', a.rg, ha.mono _ _ _ (liftD_le g a) q⟩
    · rename_i e; rw [if_neg e]; exact ⟨Γ', a.rg, hb.mono _ _ _ (liftD_le g a) q⟩
  · rw [br_iff] at q ⊢
    split at q
    · rename_i e; rw [if_pos e]; exact ha.mono _ _ _ h q
    · rename_i e; rw [if_neg e]; exact hb.mono _ _ _ h q

/-! ### targets -/
/-- name = e -/
def tsSet (i : Nat) (te : TD) : TSD := fun D Γ => te Γ fun r Γ' => isBw r = false ∧ D.nx (Γ'.set i r)
theorem pd_set (i : Nat) {x : Str} {pos' : Pos} (he : PD X e te) (hN : X.N.Nodup) (hi : X.N[i]? = some x := by rfl) (hx : Loc X.env.scope x := by first | exact Or.inl rfl | exact Or.inr rfl)
    (hs : swapsWith e (some (.Name x pos')) pos.line X.env = pure false := by rfl) (hf : X.fn x = true ∨ X.env.scope.names.lookup x = some .local := by first | exact .inl rfl | exact .inr rfl) : PDS X (.Assign [.Name x pos'] e pos) (tsSet i te) := by
  refine ⟨PS.imp (ps_set hN hi hx he.run hs hf) fun D σ H ⟨Γ, g, q⟩ => ⟨Γ, g, he.mono _ _ _ (fun r Γ' q v H' a rs => ?_) q⟩, fun D D' Γ h => he.mono _ _ _ fun r Γ' q => ⟨q.1, h.nx _ q.2⟩⟩
  exact q.2 _ H' (aft_set a rs q.1)
/-- data into a target -/
abbrev TGD := D → G → (G → Prop) → Prop
def liftG (K : PySem.W.Frag) (t : TGD) : TG := fun v σ H Q => ∃ Γ d, RG K H σ Γ ∧ Rep K H d v ∧ t d Γ fun Γ' => ∀ σ' H', Aft K H Γ H' σ' Γ' → Q σ' H'
structure PGD (X : Cx) (tg : Expr) (t : TGD) : Prop where
  run : PG X tg (liftG X.K t)
  mono : ∀ d Γ (Q Q' : G → Prop), (∀ Γ', Q Γ' → Q' Γ') → t d Γ Q → t d Γ Q'
theorem PG.imp {X : Cx} {tg : Expr} {t t' : TG} (h : PG X tg t) (hi : ∀ v σ H Q, t' v σ H Q → t v σ H Q) : PG X tg t' := ⟨fun pins s σ H v u Q I r q => h.run pins s σ H v u Q I r (hi _ _ _ _ q)⟩
def tgName (i : Nat) : TGD := fun d Γ Q => Q (Γ.set i (.fz d))
theorem pgd_name (i : Nat) {x : Str} (hN : X.N.Nodup) (hi : X.N[i]? = some x := by rfl) (hx : Loc X.env.scope x := by first | exact Or.inl rfl | exact Or.inr rfl) (hf : X.fn x = true ∨ X.env.scope.names.lookup x = some .local := by first | exact .inl rfl | exact .inr rfl) :
    PGD X (.Name x pos) (tgName i) :=
  ⟨PG.imp (pg_name hN hi hx hf) fun v σ H Q ⟨Γ, d, g, r, q⟩ => q _ H (aft_set (Aft.refl g) (r := .fz d) (show Res X.K H σ Γ H Γ v (.fz d) from r) rfl), fun d Γ Q Q' h q => h _ q⟩
abbrev TGsD := List D → G → (G → Prop) → Prop
def liftGs (K : PySem.W.Frag) (t : TGsD) : TGs := fun vs σ H Q => ∃ Γ ds, RG K H σ Γ ∧ Reps K H ds vs ∧ t ds Γ fun Γ' => ∀ σ' H', Aft K H Γ H' σ' Γ' → Q σ' H'
structure PGsD (X : Cx) (tgs : List Expr) (t : TGsD) : Prop where
  run : PGs X tgs (liftGs X.K t)
  mono : ∀ d Γ (Q Q' : G → Prop), (∀ Γ', Q Γ' → Q' Γ') → t d Γ Q → t d Γ Q'
theorem PGs.imp {X : Cx} {tg : List Expr} {t t' : TGs} (h : PGs X tg t) (hi : ∀ v σ H Q, t' v σ H Q → t v σ H Q) : PGs X tg t' := ⟨fun pins s σ H v u Q I r q => h.run pins s σ H v u Q I r (hi _ _ _ _ q)⟩
def tgNil : TGsD := fun ds Γ Q => match ds with
  | [] => Q Γ
  | _ => False
def tgCons (t : TGD) (u : TGsD) : TGsD := fun ds Γ Q => match ds with
  | d :: r => t d Γ fun Γ' => u r Γ' Q
  | _ => False
theorem pgsd_nil : PGsD X [] tgNil := by
  refine ⟨PGs.imp pgs_nil fun vs σ H Q ⟨Γ, ds, g, r, q⟩ => ?_, fun d Γ Q Q' h q => ?_⟩
  · unfold tgNil at q
    split at q
    · exact ⟨r, q σ H (Aft.refl g)⟩
    · exact q.elim
  · unfold tgNil at q ⊢
    split at q
    · exact h _ q
    · exact q
theorem pgsd_cons {e : Expr} {es : List Expr} {t : TGD} {u : TGsD} (h1 : PGD X e t) (h2 : PGsD X es u)
    (hs : (assignEach (e :: es) X.env).map (·.2) = assign e X.env :: (assignEach es X.env).map (·.2) := by rfl) : PGsD X (e :: es) (tgCons t u) := by
  refine ⟨PGs.imp (pgs_cons h1.run h2.run hs) fun vs σ H Q ⟨Γ, ds, g, r, q⟩ => ?_, fun d Γ Q Q' h q => ?_⟩
  · unfold tgCons at q
    split at q
    · obtain ⟨v, w, rfl, r1, r2⟩ := r
      refine ⟨v, w, rfl, Γ, _, g, r1, h1.mono _ _ _ _ (fun Γ' q => ?_) q⟩
      intro σ' H' a
      exact ⟨Γ', _, a.rg, r2.imm (a.imm g), h2.mono _ _ _ _ (fun Γ2 q σ2 H2 a2 => q σ2 H2 (a.trans g a2)) q⟩
    · exact q.elim
  · unfold tgCons at q ⊢
    split at q
    · exact h1.mono _ _ _ _ (fun Γ' => h2.mono _ _ _ _ h) q
    · exact q
def tgTup (n : Nat) (t : TGsD) : TGD := fun d Γ Q => match d with
  | .tuple ds => ds.length = n ∧ t ds Γ Q
  | _ => False
theorem pgd_tup {es : List Expr} {k : Nat} {t : TGsD} {n : Nat} (hc : X.calm = true) (h : PGsD X es t) (hn : (assignEach es X.env).length = n := by rfl) (hst : (assignEach es X.env).findIdx? (·.1) = none := by rfl) : PGD X (.Tuple es k pos) (tgTup n t) := by
  refine ⟨PG.imp (pg_tup hc h.run hn hst) fun v σ H Q ⟨Γ, d, g, r, q⟩ => ?_, fun d Γ Q Q' hq q => ?_⟩
  · unfold tgTup at q
    split at q
    · obtain ⟨a, vs, rfl, h1, h2⟩ := r
      exact ⟨a, vs, rfl, h1.sq, h2.len.trans q.1, Γ, _, g, h2, q.2⟩
    · exact q.elim
  · unfold tgTup at q ⊢
    split at q
    · exact ⟨q.1, h.mono _ _ _ _ hq q.2⟩
    · exact q
/-- target = e, data -/
def tsAsg (te : TD) (tg : TGD) : TSD := fun D Γ => te Γ fun r Γ' => match r with
  | .fz d => tg d Γ' D.nx
  | _ => False
theorem pd_asg {tg : Expr} {tgd : TGD} (he : PD X e te) (hg : PGD X tg tgd) (hs : swapsWithSole [tg] e pos.line X.env = pure false := by rfl) (hw : swappedStores [tg] e X.env = pure none := by rfl)
    (h1 : (assignEach [tg] X.env).map (·.2) = [assign tg X.env] := by rfl) : PDS X (.Assign [tg] e pos) (tsAsg te tgd) := by
  refine ⟨PS.imp (ps_asg he.run hg.run hs hw h1) fun D σ H ⟨Γ, g, q⟩ => ⟨Γ, g, he.mono _ _ _ (fun r Γ' q v H' a rs => ?_) q⟩, fun D D' Γ h => he.mono _ _ _ fun r Γ' q => ?_⟩
  · split at q
    · exact ⟨Γ', _, a.rg, rs, hg.mono _ _ _ _ (fun Γ2 q σ2 H2 a2 => q σ2 H2 (a.trans g a2)) q⟩
    · exact q.elim
  · split at q
    · exact hg.mono _ _ _ _ h.nx q
    · exact q
/-- a, b = x, y into plain locals -/
def tsPar (i j : Nat) (ta : TAD) : TSD := fun D Γ => ta Γ fun rs Γ' => fzs rs fun ds => match ds with
  | [d, e] => D.nx ((Γ'.set i (.fz d)).set j (.fz e))
  | _ => False
theorem pd_par (i j : Nat) {x y : Str} {a b : Expr} {ta : TAD} {px py pt : Pos} {kt k2 pt2} (hc : X.calm = true) (hN : X.N.Nodup) (ha : PAD X [a, b] ta) (hw : swappedStores [.Tuple [.Name x px, .Name y py] kt pt] (.Tuple [a, b] k2 pt2) X.env = pure (some [x, y]) := by rfl)
    (hi : X.N[i]? = some x := by rfl) (hj : X.N[j]? = some y := by rfl) (hij : i ≠ j := by decide) (hx : X.env.scope.names.lookup x = some .local := by rfl) (hy : X.env.scope.names.lookup y = some .local := by rfl)
    (hs : swapsWithSole [.Tuple [.Name x px, .Name y py] kt pt] (.Tuple [a, b] k2 pt2) pos.line X.env = pure false := by rfl) : PDS X (.Assign [.Tuple [.Name x px, .Name y py] kt pt] (.Tuple [a, b] k2 pt2) pos) (tsPar i j ta) := by
  refine ⟨PS.imp (ps_par hc hN hi hj hij hx hy ha.run hw hs) fun D σ H ⟨Γ, g, q⟩ => ⟨Γ, g, ha.mono _ _ _ (fun rs Γ' q vs H' a rr => ?_) q⟩, fun D D' Γ h => ha.mono _ _ _ fun rs Γ' => fzs_mono fun ds q => ?_⟩
  · obtain ⟨ds, rp, q⟩ := fzs_ok rr q
    split at q
    · obtain ⟨v, w, rfl, r1, w', w2, rfl, r2, e3⟩ := rp
      rw [show w2 = [] from e3]
      refine ⟨v, w', rfl, q _ H' ?_⟩
      have a1 := aft_set (i := i) a (r := .fz _) (show Res X.K H σ Γ H' Γ' v (.fz _) from r1) rfl
      exact aft_set (i := j) a1 (r := .fz _) (show Res X.K H _ Γ H' _ w' (.fz _) from r2) rfl
    · exact q.elim
  · split at q
    · exact h.nx _ q
    · exact q
/-- name += e: ints -/
def tsAug (i : Nat) (g : Int → Int → Int) (te : TD) : TSD := fun D Γ => match Γ[i]? with
  | some (.fz (.int a)) => te Γ fun r Γ' => (match r with
    | .fz (.int b) => D.nx (Γ'.set i (.fz (.int (g a b))))
    | _ => False)
  | _ => False
theorem pd_aug {op : Operator} {f : Int → Int → Int} (i : Nat) {x : Str} {pos' : Pos} (he : PD X e te) (ho : PIp X op (ipI f)) (hN : X.N.Nodup) (hi : X.N[i]? = some x := by rfl) (hx : Loc X.env.scope x := by first | exact Or.inl rfl | exact Or.inr rfl)
    (hf : X.fn x = true ∨ X.env.scope.names.lookup x = some .local := by first | exact .inl rfl | exact .inr rfl) : PDS X (.AugAssign (.Name x pos') op e pos) (tsAug i f te) := by
  refine ⟨PS.imp (ps_aug hN hi hx he.run ho hf) fun D σ H ⟨Γ, g, q⟩ => ?_, fun D D' Γ h q => ?_⟩
  · unfold tsAug at q
    split at q
    · rename_i a ea
      obtain ⟨v, e1, e2⟩ := g.fz _ _ ea
      rw [show v = V.int a from e2] at e1
      refine ⟨_, e1, Γ, g, he.mono _ _ _ (fun r Γ' q v H' af rs => ?_) q⟩
      split at q
      · exact ⟨a, _, rfl, rs, q _ H' (aft_set af (r := .fz _) (show Res X.K H σ Γ H' Γ' (.int (f a _)) (.fz (.int (f a _))) from rfl) rfl)⟩
      · exact q.elim
    · exact q.elim
  · unfold tsAug at q ⊢
    split at q
    · refine he.mono _ _ _ (fun r Γ' q => ?_) q
      split at q
      · exact h.nx _ q
      · exact q
    · exact q

/-! ### while -/
structure MonoW (c : TB) (tb : TSD) : Prop where
  mc : MonoB c
  mb : MonoS tb
/-- inv: the word, with a measure -/
structure WhR (E : EndD) (Γ : G) (c : TB) (tb : TSD) : Prop where
  out : ∃ inv : Nat → G → Prop, (∃ m, inv m Γ) ∧ ∀ m Γ, inv m Γ → c Γ fun k Γ' => Br k (tb { E with nx := fun Γ2 => ∃ m', m' < m ∧ inv m' Γ2, ct := fun Γ2 => ∃ m', m' < m ∧ inv m' Γ2, bk := E.nx } Γ') (E.nx Γ')
def tsWhile (c : TB) (tb : TSD) : TSD := fun E Γ => MonoW c tb → WhR E Γ c tb
theorem pd_while {c : Expr} {body : List Stmt} {tc : TB} {tb : TSD} (hp : PassesOwn (model X.prog X.w) X.A X.env X.xe) (hc : PB X c tc) (hb : PDSs X body tb) : PDS X (.While c body [] pos) (tsWhile tc tb) := by
  refine ⟨PS.imp (ps_while hp hc.run hb.run) fun D σ H ⟨Γ, g, q⟩ => ?_, fun D D' Γ h q mw => ?_⟩
  · obtain ⟨inv, ⟨m0, i0⟩, turn⟩ := (q ⟨hc.mono, hb.mono⟩).out
    refine ⟨fun m σ' H' => ∃ Γ', Aft X.K H Γ H' σ' Γ' ∧ inv m Γ', ⟨m0, Γ, Aft.refl g, i0⟩, ?_⟩
    rintro m σ1 H1 ⟨Γ1, a1, i1⟩
    refine ⟨Γ1, a1.rg, hc.mono _ _ _ (fun k Γ2 q H2 a2 => ?_) (turn m Γ1 i1)⟩
    have a12 := a1.trans g a2
    rw [br_iff] at q
    split at q
    · rename_i e
      show if k = true then _ else _
      rw [if_pos e]
      refine ⟨fun σ' H' => ∃ m', m' < m ∧ ∃ Γ', Aft X.K H Γ H' σ' Γ' ∧ inv m' Γ', fun σ' H' z => z, Γ2, a2.rg, hb.mono _ _ _ ?_ q⟩
      refine ⟨fun Γ3 ⟨m', lt, i3⟩ σ3 H3 a3 => ⟨m', lt, Γ3, a12.trans g a3, i3⟩, fun r Γ3 q v σ3 H3 a3 rs => q v σ3 H3 (a12.trans g a3) (rs.from a12), fun Γ3 q σ3 H3 a3 => q σ3 H3 (a12.trans g a3), fun Γ3 ⟨m', lt, i3⟩ σ3 H3 a3 => ⟨m', lt, Γ3, a12.trans g a3, i3⟩⟩
    · rename_i e
      show if k = true then _ else _
      rw [if_neg e]
      exact q σ1 H2 a12
  · obtain ⟨inv, i0, turn⟩ := (q mw).out
    refine ⟨⟨inv, i0, fun m Γ1 i1 => hc.mono _ _ _ (fun k Γ' q => ?_) (turn m Γ1 i1)⟩⟩
    rw [br_iff] at q ⊢
    split at q
    · rename_i e; rw [if_pos e]
      refine hb.mono _ _ _ ?_ q
      exact ⟨fun _ z => z, h.rt, h.nx, fun _ z => z⟩
    · rename_i e; rw [if_neg e]; exact h.nx _ q
end

/-! ### a def's body -/
def back : G → G → G
  | [], _ => []
  | .ow p _ :: Γ, .ow q o :: Γ' => (if q = p then .ow p o else .no) :: back Γ Γ'
  | .ow _ _ :: Γ, _ :: Γ' => .no :: back Γ Γ'
  | .ow _ _ :: Γ, [] => .no :: back Γ []
  | s :: Γ, Γ' => s :: back Γ Γ'.tail
theorem back_ow {Q : SV → G → Prop} {r : SV} {p : Addr} {o o' : O} {Γ Γ' : G} (h : Q r (.ow p o' :: back Γ Γ')) : Q r (back (.ow p o :: Γ) (.ow p o' :: Γ')) := by
  have e : back (.ow p o :: Γ) (.ow p o' :: Γ') = (if p = p then .ow p o' else .no) :: back Γ Γ' := rfl
  rw [e, if_pos rfl]
  exact h
theorem back_len : ∀ {Γ Γ' : G}, (back Γ Γ').length = Γ.length
  | [], _ => rfl
  | .ow p _ :: Γ, .ow q o :: Γ' => by simp [back, back_len (Γ := Γ) (Γ' := Γ')]
  | .ow _ _ :: Γ, .no :: Γ' => by simp [back, back_len (Γ := Γ) (Γ' := Γ')]
  | .ow _ _ :: Γ, .fz _ :: Γ' => by simp [back, back_len (Γ := Γ) (Γ' := Γ')]
  | .ow _ _ :: Γ, .raw _ :: Γ' => by simp [back, back_len (Γ := Γ) (Γ' := Γ')]
  | .ow _ _ :: Γ, .bw _ :: Γ' => by simp [back, back_len (Γ := Γ) (Γ' := Γ')]
  | .ow _ _ :: Γ, [] => by simp [back, back_len (Γ := Γ) (Γ' := [])]
  | .no :: Γ, Γ' => by simp [back, back_len (Γ := Γ) (Γ' := Γ'.tail)]
  | .fz _ :: Γ, Γ' => by simp [back, back_len (Γ := Γ) (Γ' := Γ'.tail)]
  | .raw _ :: Γ, Γ' => by simp [back, back_len (Γ := Γ) (Γ' := Γ'.tail)]
  | .bw _ :: Γ, Γ' => by simp [back, back_len (Γ := Γ) (Γ' := Γ'.tail)]
theorem back_at : ∀ {Γ Γ' : G} {i : Nat} {s : SV}, (back Γ Γ')[i]? = some s → s = .no ∨ (∃ p o o', Γ[i]? = some (.ow p o') ∧ Γ'[i]? = some (.ow p o) ∧ s = .ow p o) ∨ (Γ[i]? = some s ∧ ∀ p o, s ≠ .ow p o)
  | [], _, _, _, h => by simp [back] at h
  | .ow p o' :: Γ, .ow q o :: Γ', 0, s, h => by
    simp only [back, List.getElem?_cons_zero, Option.some.injEq] at h
    split at h
    · rename_i e
      subst e
      exact .inr (.inl ⟨_, o, o', rfl, rfl, h.symm⟩)
    · exact .inl h.symm
  | .ow _ _ :: Γ, .no :: Γ', 0, s, h => .inl (by simpa [back] using h.symm)
  | .ow _ _ :: Γ, .fz _ :: Γ', 0, s, h => .inl (by simpa [back] using h.symm)
  | .ow _ _ :: Γ, .raw _ :: Γ', 0, s, h => .inl (by simpa [back] using h.symm)
  | .ow _ _ :: Γ, .bw _ :: Γ', 0, s, h => .inl (by simpa [back] using h.symm)
  | .ow _ _ :: Γ, [], 0, s, h => .inl (by simpa [back] using h.symm)
  | .no :: Γ, Γ', 0, s, h => .inl (by simpa [back] using h.symm)
  | .fz d :: Γ, Γ', 0, s, h => by
    have e : SV.fz d = s := by simpa [back] using h
    exact .inr (.inr ⟨by rw [← e]; rfl, fun p o z => by rw [← e] at z; cases z⟩)
  | .raw d :: Γ, Γ', 0, s, h => by
    have e : SV.raw d = s := by simpa [back] using h
    exact .inr (.inr ⟨by rw [← e]; rfl, fun p o z => by rw [← e] at z; cases z⟩)
  | .bw d :: Γ, Γ', 0, s, h => by
    have e : SV.bw d = s := by simpa [back] using h
    exact .inr (.inr ⟨by rw [← e]; rfl, fun p o z => by rw [← e] at z; cases z⟩)
  | .ow p o' :: Γ, .ow q o :: Γ', i + 1, s, h => by simpa using back_at (Γ := Γ) (Γ' := Γ') (i := i) (s := s) (by simpa [back] using h)
  | .ow _ _ :: Γ, .no :: Γ', i + 1, s, h => by simpa using back_at (Γ := Γ) (Γ' := Γ') (i := i) (s := s) (by simpa [back] using h)
  | .ow _ _ :: Γ, .fz _ :: Γ', i + 1, s, h => by simpa using back_at (Γ := Γ) (Γ' := Γ') (i := i) (s := s) (by simpa [back] using h)
  | .ow _ _ :: Γ, .raw _ :: Γ', i + 1, s, h => by simpa using back_at (Γ := Γ) (Γ' := Γ') (i := i) (s := s) (by simpa [back] using h)
  | .ow _ _ :: Γ, .bw _ :: Γ', i + 1, s, h => by simpa using back_at (Γ := Γ) (Γ' := Γ') (i := i) (s := s) (by simpa [back] using h)
  | .ow _ _ :: Γ, [], i + 1, s, h => by simpa using back_at (Γ := Γ) (Γ' := []) (i := i) (s := s) (by simpa [back] using h)
  | .no :: Γ, [], i + 1, s, h => by simpa using back_at (Γ := Γ) (Γ' := []) (i := i) (s := s) (by simpa [back] using h)
  | .fz d :: Γ, [], i + 1, s, h => by simpa using back_at (Γ := Γ) (Γ' := []) (i := i) (s := s) (by simpa [back] using h)
  | .raw d :: Γ, [], i + 1, s, h => by simpa using back_at (Γ := Γ) (Γ' := []) (i := i) (s := s) (by simpa [back] using h)
  | .bw d :: Γ, [], i + 1, s, h => by simpa using back_at (Γ := Γ) (Γ' := []) (i := i) (s := s) (by simpa [back] using h)
  | .no :: Γ, g :: Γ', i + 1, s, h => by simpa using back_at (Γ := Γ) (Γ' := Γ') (i := i) (s := s) (by simpa [back] using h)
  | .fz d :: Γ, g :: Γ', i + 1, s, h => by simpa using back_at (Γ := Γ) (Γ' := Γ') (i := i) (s := s) (by simpa [back] using h)
  | .raw d :: Γ, g :: Γ', i + 1, s, h => by simpa using back_at (Γ := Γ) (Γ' := Γ') (i := i) (s := s) (by simpa [back] using h)
  | .bw d :: Γ, g :: Γ', i + 1, s, h => by simpa using back_at (Γ := Γ) (Γ' := Γ') (i := i) (s := s) (by simpa [back] using h)
/-- behind the body: what the arguments hold -/
theorem aft_back {K : PySem.W.Frag} {H H' : Hp} {vs : List V} {Γ Γ' : G} {n : Nat} {σ' : Sl} (g : RG K H (vs.map some) Γ) (a : Aft K H (Γ ++ List.replicate n .no) H' σ' Γ') :
    Aft K H Γ H' (vs.map some) (back Γ Γ') ∧ ∀ p, own (back Γ Γ') p → own Γ' p := by
  have ownA : ∀ p, own (Γ ++ List.replicate n .no) p → own Γ p := fun p ⟨i, o, e⟩ => by
    rcases Nat.lt_or_ge i Γ.length with h | h
    · rw [List.getElem?_append_left h] at e; exact ⟨i, o, e⟩
    · rw [List.getElem?_append_right h] at e
      have := List.mem_of_getElem? e
      rw [List.mem_replicate] at this
      cases this.2
  have im : Imm H H' := fun b u e m => a.keep b u e fun q => by
    have := g.mut (ownA b q)
    rw [e] at this
    exact m this
  have ow2 : ∀ p, own (back Γ Γ') p → own Γ' p := fun p ⟨i, o, e⟩ => by
    rcases back_at e with z | ⟨q, o1, o2, _, z2, z3⟩ | ⟨_, z⟩
    · cases z
    · cases z3; exact ⟨i, _, z2⟩
    · exact absurd rfl (z _ _)
  refine ⟨⟨fun c u e n => a.keep c u e fun z => n (ownA c z), ⟨by rw [back_len]; exact g.len, fun i d e => ?_, fun i p o e => ?_, fun i v e => ?_, fun i j p o o' e e' => ?_⟩, fun c q => ?_⟩, ow2⟩
  · rcases back_at e with z | ⟨q, o1, o2, _, z2, z3⟩ | ⟨z, _⟩
    · cases z
    · cases z3
    · obtain ⟨v, h1, h2⟩ := g.fz _ _ z
      exact ⟨v, h1, h2.imm im⟩
  · rcases back_at e with z | ⟨q, o1, o2, z1, z2, z3⟩ | ⟨_, z⟩
    · cases z
    · cases z3
      exact ⟨(g.ow _ _ _ z1).1, (a.rg.ow _ _ _ z2).2⟩
    · exact absurd rfl (z _ _)
  · rcases back_at e with z | ⟨q, o1, o2, _, z2, z3⟩ | ⟨z, _⟩
    · cases z
    · cases z3
    · exact g.raw _ _ z
  · rcases back_at e with z | ⟨q, o1, o2, z1, z2, z3⟩ | ⟨_, z⟩
    · cases z
    · cases z3
      rcases back_at e' with z | ⟨q', o1', o2', z1', z2', z3'⟩ | ⟨_, z⟩
      · cases z
      · cases z3'
        exact g.one _ _ _ _ _ z1 z1'
      · exact absurd rfl (z _ _)
    · exact absurd rfl (z _ _)
  · obtain ⟨i, o, e⟩ := q
    rcases back_at e with z | ⟨q, o1, o2, z1, z2, z3⟩ | ⟨_, z⟩
    · cases z
    · cases z3; exact .inl ⟨i, _, z1⟩
    · exact absurd rfl (z _ _)
/-- what the body is to reach -/
def fin (Γ : G) (Q : SV → G → Prop) : EndD := { nx := fun Γ' => Q (.fz .none) (back Γ Γ'), rt := fun r Γ' => isBw r = false ∧ Q r (back Γ Γ') }
section
variable {P : Program} {w : World} {K : PySem.W.Frag} {mg : Str → Option Value} {base : Heap}
theorem rg_start {H : Hp} {vs : List V} {Γ : G} {N : List Str} (g : RG K H (vs.map some) Γ) : RG K H (L2.start N vs) (Γ ++ List.replicate (N.length - Γ.length) .no) := by
  have hl : Γ.length = vs.length := by rw [g.len, List.length_map]
  have lo : ∀ {i : Nat} {s : SV}, (Γ ++ List.replicate (N.length - Γ.length) SV.no)[i]? = some s → s ≠ .no → Γ[i]? = some s := fun {i s} e n => by
    rcases Nat.lt_or_ge i Γ.length with h | h
    · rw [List.getElem?_append_left h] at e; exact e
    · rw [List.getElem?_append_right h] at e
      have := List.mem_of_getElem? e
      rw [List.mem_replicate] at this
      exact absurd this.2 n
  have up : ∀ {i : Nat} {v : V}, (vs.map some)[i]? = some (some v) → (L2.start N vs)[i]? = some (some v) := fun {i v} e => by
    unfold L2.start
    have h : i < (vs.map some).length := by
      rcases Nat.lt_or_ge i (vs.map some).length with h | h
      · exact h
      · rw [List.getElem?_eq_none h] at e; cases e
    rw [List.getElem?_append_left h]; exact e
  refine ⟨by unfold L2.start; simp only [List.length_append, List.length_map, List.length_replicate]; rw [hl], fun i d e => ?_, fun i p o e => ?_, fun i v e => ?_, fun i j p o o' e e' => ?_⟩
  · obtain ⟨v, h1, h2⟩ := g.fz _ _ (lo e (by intro z; cases z))
    exact ⟨v, up h1, h2⟩
  · obtain ⟨h1, h2⟩ := g.ow _ _ _ (lo e (by intro z; cases z))
    exact ⟨up h1, h2⟩
  · exact up (g.raw _ _ (lo e (by intro z; cases z)))
  · exact g.one _ _ _ _ _ (lo e (by intro z; cases z)) (lo e' (by intro z; cases z))
/-- THE RULE for a def that raises nothing -/
theorem fnd {x qual : Str} {st : Stmt} {f : Addr} {fd : FuncData} {N ps : List Str} {k : Nat} {sp : SpD} (F : Fun K x qual st f fd) (S : FnScope N ps (defScope st)) (n : Nat) (hn : ps.length = n) (ms : MonoSp sp)
    (hbody : ∀ (X : Cx) (cdv : Value) (A : Around) (outer : List Env) (s : Shared) (H : Hp) (E : XK), X = (cxOf CX0 P w K mg base N qual (defScope st) f cdv A outer s H E).nox → Room k X.A →
      ∃ t, PDSs X (defBody st) t ∧ ∀ Γ Q E', Γ.length = n → sp Γ Q E' → t (fin Γ Q) (Γ ++ List.replicate (N.length - n) .no)) : FnOk P w K mg base CX0 (k + 1) f fd ps (liftSp K n sp) := by
  refine F.ok S (fun vs H Q E h => h.1.trans hn.symm) (fun cdv A outer s H vs Q E hr h => ?_)
  obtain ⟨hl, Γ, g, q⟩ := h
  obtain ⟨t, ht, rd⟩ := hbody _ cdv A outer s H E rfl hr
  have hL : Γ.length = n := by rw [g.len, List.length_map, hl]
  refine ⟨_, ht.run, _, ?_, ht.mono _ _ _ ?_ (rd Γ _ _ hL q)⟩
  · have := rg_start (N := N) g
    rw [hL] at this; exact this
  · have key : ∀ {r : SV} {Γ' : G} {v : V} {σ' : Sl} {H' : Hp}, isBw r = false → (∀ v H', Aft K H Γ H' (vs.map some) (back Γ Γ') → Res K H (vs.map some) Γ H' (back Γ Γ') v r → Q v H') →
        Aft K H (Γ ++ List.replicate (N.length - n) .no) H' σ' Γ' → Res K H σ' (Γ ++ List.replicate (N.length - n) .no) H' Γ' v r → Q v H' := fun {r Γ' v σ' H'} nb q a rs => by
      obtain ⟨a2, ow2⟩ := aft_back g a
      refine q v H' a2 ?_
      cases r with
      | no => trivial
      | fz d => exact rs
      | raw u => exact rs
      | bw i => cases nb
      | ow p o =>
        obtain ⟨e, z1, z2, z3⟩ := rs
        refine ⟨e, z1, fun z => z2 (ow2 p z), z3.imp (fun ⟨i, o, e⟩ => ?_) id⟩
        rcases Nat.lt_or_ge i Γ.length with h | h
        · rw [List.getElem?_append_left h] at e; exact ⟨i, o, e⟩
        · rw [List.getElem?_append_right h] at e
          have := List.mem_of_getElem? e
          rw [List.mem_replicate] at this
          cases this.2
    exact ⟨fun Γ' q σ' H' a => key (r := .fz .none) (v := .non) rfl q a rfl, fun r Γ' q v σ' H' a rs => key q.1 q.2 a rs, fun Γ' z => z.elim, fun Γ' z => z.elim⟩
end
end DL
/-! DL8: what a loop walks: lists, tuples, texts, ranges, enumerate of each; for. -/
namespace DL
open PySem PySem.Spec PyProof.Rows L2

/-! ### enumerate(v) of a tuple -/
theorem meets_enum1 {v : Value} {o : Obj} {HP : Heap → Prop} (B : Begins v o HP) :
    Meets (Builtin.«enumerate.__new__» ⟨[.type "enumerate", v], []⟩) (fun _ R s => HP s.heap ∧
      R (.ok (.ret (.ref (s.heap.push o).objs.size))) { s with heap := (s.heap.push o).push { cls := .type "enumerate", data := .fields #[.none, .bool false, .ref s.heap.objs.size, rawInt 0, .none, .none] } }) := by
  refine .of_wp fun prog w A R s hh => ?_
  obtain ⟨hp, g, d, tk, os⟩ := s
  obtain ⟨b1, fin⟩ := hh
  have sb := sub_enumerate
  have it1 : ∀ {A' : Around} {E Q : Value → Shared → Prop}, Q (.ref hp.objs.size) ⟨hp.push o, g, d, tk, os⟩ → wpAny (model prog w) A' (pyIter v) Q E ⟨hp, g, d, tk, os⟩ := by
    intro A' E Q q
    exact B.iter prog w A' E ⟨hp, g, d, tk, os⟩ Q b1 q
  wp_walk using it1
  refine wpAny_stack_any (fun st => ?_)
  refine wpAny_pure ?_
  split
  · rename_i c _ _ _ _ _
    by_cases hc : (c == Value.type "enumerate") = true
    · simp only [hc]
      wp_walk using it1
      exact ⟨_, rfl, fin⟩
    · simp only [Bool.eq_false_iff.mpr hc]
      wp_walk using it1
      exact ⟨_, rfl, fin⟩
  · wp_walk using it1
    exact ⟨_, rfl, fin⟩
theorem enum1_begins {prog : Program} {w : World} {A : Around} {E : Value → Shared → Prop} {s : Shared} {v : Value} {o : Obj} {HP : Heap → Prop} {Q : Value → Shared → Prop} (B : Begins v o HP) (h1 : HP s.heap)
    (h : ∀ h', IsEnum h' (s.heap.objs.size + 1) s.heap.objs.size 0 .none → h'.get? s.heap.objs.size = some o → (∀ b o, s.heap.get? b = some o → h'.get? b = some o) → Q (.ref (s.heap.objs.size + 1)) { s with heap := h' }) :
    wpAny (model prog w) A (call (.type "enumerate") [v]) Q E s := by
  have z1 : (s.heap.push o).objs.size = s.heap.objs.size + 1 := Heap.size_push ..
  refine callType_new F.called_enumerate (by decide) (F.typeCall_enumerate_1 _)
    (F.newCall_enumerate_1 _) (fun obj => F.args_object_init_2 obj _)
    F.entry_enumerate_new (meets_enum1 B) ?_
  refine ⟨h1, ?_⟩
  rw [z1]
  have e2 := Heap.get?_push_size (s.heap.push o) (o := { cls := .type "enumerate", data := .fields #[.none, .bool false, .ref s.heap.objs.size, rawInt 0, .none, .none] }) rfl
  rw [z1] at e2
  have o1 : (s.heap.push o).get? s.heap.objs.size = some o := Heap.get?_push_size s.heap B.free
  exact ⟨⟨_, e2, rfl⟩, h _ e2 (Heap.get?_push_of_some _ o1) (fun b ob q => Heap.get?_push_of_some _ (Heap.get?_push_of_some _ q))⟩
/-- enumerate of the tuple at a -/
def IteT (K : PySem.W.Frag) (a : Addr) : It where
  go := fun i H => ∃ xs x, SqT K H a xs ∧ xs[i]? = some x
  yld := fun i H v H' => ∃ T x, v = .ref T ∧ H T = none ∧ H' = upd H T (.tup [.int (i : Nat), x]) ∧ ∀ xs, SqT K H a xs → xs[i]? = some x
  stop := fun i H => ∃ xs, SqT K H a xs ∧ xs.length = i
theorem turn_enumT {P : Program} {w : World} {K : PySem.W.Frag} {elts : List Expr} {kk : Nat} {tpos : Pos} (a e it : Addr) :
    Turn P w K (.Tuple elts kk tpos) (IteT K a) [e, it] e (fun i h => (∃ old, IsEnum h e it ((i : Nat) : Int) old) ∧ h.IsTupleIter it a i ∧ e ≠ it ∧ a ≠ it ∧ a ≠ e) := by
  have mem2 : ∀ {b : Addr}, b ∈ [e, it] → b = e ∨ b = it := fun hb => by simpa using hb
  refine ⟨by simp, ?_, ?_, ?_, ?_, ?_⟩
  · rintro i h ⟨⟨old, he⟩, ⟨o, ho, hc, hd⟩, _⟩ b hb
    rcases mem2 hb with rfl | rfl
    · exact ⟨_, he, fun v q => nomatch q⟩
    · exact ⟨o, ho, fun v q => by rw [hd] at q; cases q⟩
  · rintro i h h' ⟨⟨old, he⟩, hi, hn⟩ k
    exact ⟨⟨old, k e (by simp) _ he⟩, hi.at (fun o q => k it (by simp) o q), hn⟩
  · intro X hP hw hK hc i pins s σ H E I hf st hg
    subst hP hw hK
    obtain ⟨⟨old, he⟩, hit, hne, ha1, ha2⟩ := st
    obtain ⟨xs, x, hq, hx⟩ := hg
    obtain ⟨its, rv, pt, hz⟩ := I.tuple hq
    obtain ⟨u, hu, ru⟩ := rv.get hx
    have hel : e < s.heap.objs.size := Heap.lt_size he
    have hil : it < s.heap.objs.size := by
      obtain ⟨_, q, _⟩ := hit
      exact Heap.lt_size q
    have hlt : i < its.toArray.size := by
      have := List.getElem?_eq_some_iff.mp hu
      obtain ⟨z, _⟩ := this
      simpa using z
    refine wpAny_pyNext_enum_itemD (Draws.tuple (show X.A.in1.handled = none from I.ok.hd hc) it a ha1 its.toArray) he ⟨hit, pt⟩ hlt hne (by simp [hne, Ne.symm ha2]) (fun y h' tk hP ho hst hT hsz hk => ?_)
    have ey : y = u := by
      have z : its.toArray[i]? = some y := hP
      rw [List.getElem?_toArray, hu] at z
      exact (Option.some.inj z).symm
    subst ey
    refine ⟨_, rfl, wpAny_letOwnedTupleGo_enum (s := { s with heap := h', toks := tk + 1 }) ho (fun h'' he' sb => ?_)⟩
    have hT2 : h''.get? s.heap.objs.size = some { cls := .type "tuple", data := .seq #[.int i tk, y] } := by
      rw [sb.2 _ (Nat.ne_of_gt hel)]
      exact hT
    have new : ObjOk X.prog X.w (upd H s.heap.objs.size (.tup [.int (i : Nat), x])) h'' s.heap.objs.size (.tup [.int (i : Nat), x]) :=
      ⟨Nat.le_of_lt (small1000 (by decide : (2 : Nat) ≤ 1000)), [.int i tk, y], .cons ⟨_, rfl⟩ (.cons ru .nil), ⟨_, hT2, rfl, _, rfl⟩⟩
    have I1 : Inv X pins σ (upd H s.heap.objs.size (.tup [.int (i : Nat), x])) { s with heap := h'', toks := tk + 1 } := by
      refine I.turnedNew (ch := [e, it]) (fun b ob hb q => ?_) hf (Nat.le_refl _) new
      rw [sb.2 b (fun z => hb (by simp [z]))]
      exact hk b ob (fun z => hb (by simp [z])) (fun z => hb (by simp [z])) q
    have e1 : ((i + 1 : Nat) : Int) = (i : Int) + 1 := by omega
    refine ⟨.ref s.heap.objs.size, _, I1, rfl, ⟨_, x, rfl, I.hok.fresh (Nat.le_refl _), rfl, fun ys hy => ?_⟩, ⟨⟨y, ?_⟩, ?_, hne, ha1, ha2⟩, fun b hb => ?_⟩
    · rw [I.tuple_inj hy hq]
      exact hx
    · rw [e1]
      exact he'
    · exact hst.1.at fun o q => (sb.2 it (Ne.symm hne)).trans q
    · have hb' : b ≠ s.heap.objs.size := by
        rcases mem2 hb with rfl | rfl
        · exact Nat.ne_of_lt hel
        · exact Nat.ne_of_lt hil
      rw [upd_ne hb']
      exact (hf b hb).1
  · intro X hP hw hK hc i pins s σ H E I hf st hg
    subst hP hw hK
    obtain ⟨⟨old, he⟩, hit, hne, ha1, ha2⟩ := st
    obtain ⟨xs, hq, hx⟩ := hg
    obtain ⟨its, rv, pt, hz⟩ := I.tuple hq
    obtain ⟨f0, f1, f2, f3, f4, f5⟩ := hf it (by simp)
    have hl := rv.length
    have hge : its.toArray.size = i := by simp; omega
    have D1 := Draws.tuple (prog := X.prog) (w := X.w) (A := X.A.in1) (I.ok.hd hc) it a ha1 (its.toArray)
    rw [hge] at D1
    exact wpAny_pyNext_enum_endD D1 he ⟨hit, pt⟩ (fun h' eb => ⟨rfl, I.turned (t' := s.toks) (fun b o hb q => eb b o hb q) f0 f1 f3 f4 f5⟩)
  · rintro A i s Q E ⟨⟨old, he⟩, _⟩ h
    exact wpAny_pyIter_enum he h
end DL
/-! DL9: sources of loops over data; for; list comprehensions. -/
namespace DL
open PySem PySem.Spec PyProof.Rows L2

/-! ### sources -/
structure Src (K : PySem.W.Frag) (ds : List D) (J : It) (St : Hp → Prop) : Prop where
  go : ∀ i H, St H → i < ds.length → J.go i H
  yld : ∀ i d H x H', St H → ds[i]? = some d → J.yld i H x H' → Same H H' ∧ Rep K H' d x
  stop : ∀ H, St H → J.stop ds.length H
  le : ds.length ≤ sizeLine
/-- a list of one's own that is walked: its slot, its address, its items -/
abbrev Lk := Option (Nat × Addr × List D)
def lkOk : Lk → G → Prop
  | none, _ => True
  | some (i, p, ds), Γ => Γ[i]? = some (SV.ow p (.lst ds))
abbrev TID := G → (List D → Lk → G → Prop) → Prop
def liftI (K : PySem.W.Frag) (t : TID) : TI := fun σ H R => ∃ Γ, RG K H σ Γ ∧ t Γ fun ds lk Γ1 => ∀ J H1 (St : Hp → Prop), Aft K H Γ H1 σ Γ1 → Src K ds J St → (∀ H2 σ2 Γ2, Imm H1 H2 → RG K H2 σ2 Γ2 → lkOk lk Γ2 → St H2) → R J H1
def MonoI (t : TID) : Prop := ∀ Γ (Q Q' : List D → Lk → G → Prop), (∀ ds lk Γ', Q ds lk Γ' → Q' ds lk Γ') → t Γ Q → t Γ Q'
structure PID (X : Cx) (tg iter : Expr) (t : TID) : Prop where
  run : PI X tg iter (liftI X.K t)
  mono : MonoI t
section
variable {X : Cx} {tg e a b : Expr} {t ta tb : TD} {p pos tpos : Pos}
theorem PI.imp {it : Expr} {t t' : TI} (h : PI X tg it t) (hi : ∀ σ H Q, t' σ H Q → t σ H Q) : PI X tg it t' := ⟨fun pins s σ H Q I q => h.run pins s σ H Q I (hi _ _ _ q)⟩
/-- over a list or a tuple, whichever it is -/
def iSeq (K : PySem.W.Frag) (tl : TE) : TI := fun σ H R => tl σ H fun x H1 => ∃ a, x = .ref a ∧ ((∃ xs, SqL K H1 a xs ∧ (xs.length ≤ sizeLine → R (Itl K a) H1)) ∨ (∃ xs, SqT K H1 a xs ∧ (xs.length ≤ sizeLine → R (Itt K a) H1)))
theorem pi_seq {tl : TE} (hl : PE X e tl) : PI X tg e (iSeq X.K tl) := by
  refine ⟨fun pins s σ H R I h => ?_⟩
  refine thn (hl.run pins s σ H _ I h) fun v s1 hx => ?_
  obtain ⟨x, H1, I1, r1, c, ex, q⟩ := hx
  subst ex
  cases r1
  have top : ∀ b ∈ [s1.heap.objs.size], FpOk X pins H1 b := fun b hb => by
    rw [show b = s1.heap.objs.size by simpa using hb]
    exact I1.fpOk (Nat.le_refl _) (I1.hok.fresh (Nat.le_refl _))
  have grow : ∀ o, Inv X pins σ H1 { s1 with heap := s1.heap.push o } := fun o => I1.kept (t' := s1.toks) (fun _ _ z => Heap.get?_push_of_some _ z)
  rcases q with ⟨xs, hq, q⟩ | ⟨xs, hq, q⟩
  · obtain ⟨us, ru, pl, hz⟩ := I1.list hq
    exact wpAny_pyIter_list pl.isList ⟨_, _, _, _, H1, rfl, grow _, turn_list c _, ⟨_, Heap.get?_push_size _ rfl, rfl, rfl⟩, top, q hz⟩
  · obtain ⟨us, ru, pl, hz⟩ := I1.tuple hq
    exact wpAny_pyIter_tuple (show s1.heap.IsTuple c us.toArray from pl) ⟨_, _, _, _, H1, rfl, grow _, turn_tuple c _, ⟨_, Heap.get?_push_size _ rfl, rfl, rfl⟩, top, q hz⟩
theorem src_tup {K : PySem.W.Frag} {a : Addr} {ds : List D} (hl : ds.length ≤ sizeLine) : Src K ds (Itt K a) (fun H => (∃ vs, SqT K H a vs ∧ Reps K H ds vs)) := by
  refine ⟨fun i H ⟨vs, h1, h2⟩ hi => ?_, fun i d H x H' ⟨vs, h1, h2⟩ e y => ?_, fun H ⟨vs, h1, h2⟩ => ⟨vs, h1, Nat.le_of_eq h2.len⟩, hl⟩
  · obtain ⟨v, e, _⟩ := h2.get (List.getElem?_eq_getElem hi)
    exact ⟨vs, v, h1, e⟩
  · obtain ⟨rfl, y⟩ := y
    obtain ⟨v, e2, r⟩ := h2.get e
    have := (y vs h1).symm.trans e2
    cases this
    exact ⟨same_refl _, r⟩
theorem src_lst {K : PySem.W.Frag} {a : Addr} {ds : List D} (hl : ds.length ≤ sizeLine) : Src K ds (Itl K a) (fun H => (∃ vs, SqL K H a vs ∧ Reps K H ds vs)) := by
  refine ⟨fun i H ⟨vs, h1, h2⟩ hi => ?_, fun i d H x H' ⟨vs, h1, h2⟩ e y => ?_, fun H ⟨vs, h1, h2⟩ => ⟨vs, h1, Nat.le_of_eq h2.len⟩, hl⟩
  · obtain ⟨v, e, _⟩ := h2.get (List.getElem?_eq_getElem hi)
    exact ⟨vs, v, h1, e⟩
  · obtain ⟨rfl, y⟩ := y
    obtain ⟨v, e2, r⟩ := h2.get e
    have := (y vs h1).symm.trans e2
    cases this
    exact ⟨same_refl _, r⟩
def tiSeq (t : TD) : TID := fun Γ Q => t Γ fun r Γ' => match r with
  | .fz (.tuple ds) => Q ds none Γ'
  | .fz (.list ds) => Q ds none Γ'
  | .bw i => (match Γ'[i]? with
    | some (.ow p (.lst ds)) => Q ds (some (i, p, ds)) Γ'
    | _ => False)
  | _ => False
theorem pid_seq (he : PD X e t) : PID X tg e (tiSeq t) := by
  refine ⟨PI.imp (pi_seq he.run) fun σ H R ⟨Γ, g, q⟩ => ⟨Γ, g, he.mono _ _ _ (fun r Γ' q v H' a rs => ?_) q⟩, fun Γ Q Q' h => he.mono _ _ _ fun r Γ' q => ?_⟩
  · split at q
    · obtain ⟨c, vs, rfl, h1, h2⟩ := rs
      exact ⟨c, rfl, .inr ⟨vs, h1.sq, fun hl => q _ H' _ a (src_tup (by rw [← h2.len]; exact hl)) fun H2 σ2 Γ2 i _ _ => ⟨vs, (h1.imm i).sq, h2.imm i⟩⟩⟩
    · obtain ⟨c, vs, rfl, h1, h2⟩ := rs
      exact ⟨c, rfl, .inl ⟨vs, h1.sq, fun hl => q _ H' _ a (src_lst (by rw [← h2.len]; exact hl)) fun H2 σ2 Γ2 i _ _ => ⟨vs, (h1.imm i).sq, h2.imm i⟩⟩⟩
    · split at q
      · rename_i c ds e1
        obtain ⟨z1, vs, z2, z3⟩ := a.rg.ow _ _ _ e1
        have ev := (show σ[(_ : Nat)]? = some (some v) from rs).symm.trans z1
        cases ev
        refine ⟨c, rfl, .inl ⟨vs, .of z2, fun hl => q _ H' _ a (src_lst (by rw [← z3.len]; exact hl)) fun H2 σ2 Γ2 i g2 l2 => ?_⟩⟩
        obtain ⟨_, vs2, w2, w3⟩ := g2.ow _ _ _ l2
        exact ⟨vs2, .of w2, w3⟩
      · exact q.elim
    · exact q.elim
  · split at q
    · exact h _ _ _ q
    · exact h _ _ _ q
    · split at q
      · exact h _ _ _ q
      · exact q
    · exact q
def signsD (z : Str) : List D := z.cps.toList.map fun c => .str ⟨#[c]⟩
def tiStr (t : TD) : TID := fun Γ Q => t Γ fun r Γ' => match r with
  | .fz (.str z) => z.length ≤ sizeLine ∧ Q (signsD z) none Γ'
  | _ => False
theorem src_str {K : PySem.W.Frag} {z : Str} (hz : PyData.strOk z = true) (hle : z.length ≤ sizeLine) : Src K (signsD z) (Its z) (fun _ => True) := by
  have hl : (signsD z).length = z.cps.size := by unfold signsD; simp
  refine ⟨fun i H _ hi => ?_, fun i d H x H' _ e y => ?_, fun H _ => ?_, by rw [hl]; exact hle⟩
  · rw [hl] at hi; exact hi
  · obtain ⟨rfl, c, ec, rfl⟩ := y
    unfold signsD at e
    rw [List.getElem?_map, Array.getElem?_toList, ec] at e
    cases e
    refine ⟨same_refl _, rfl, ?_⟩
    have hm : c ∈ z.cps := Array.mem_of_getElem? ec
    unfold PyData.strOk at hz ⊢
    rw [Array.all_eq_true_iff_forall_mem] at hz
    simpa using hz c hm
  · rw [hl]; exact Nat.le_refl _
theorem pid_str (he : PD X e t) : PID X tg e (tiStr t) := by
  refine ⟨PI.imp (pi_str he.run) fun σ H R ⟨Γ, g, q⟩ => ⟨Γ, g, he.mono _ _ _ (fun r Γ' q v H' a rs => ?_) q⟩, fun Γ Q Q' h => he.mono _ _ _ fun r Γ' q => ?_⟩
  · split at q
    · exact ⟨_, rs.1, q.2 _ H' _ a (src_str rs.2 q.1) fun _ _ _ _ _ _ => trivial⟩
    · exact q.elim
  · split at q
    · exact ⟨q.1, h _ _ _ q.2⟩
    · exact q
theorem src_rng {K : PySem.W.Frag} {lo hi : Int} (ok : RgOk lo hi) : Src K (rgD lo hi) (Itr lo (hi - lo).toNat) (fun _ => True) := by
  have hl : (rgD lo hi).length = (hi - lo).toNat := by unfold rgD; simp
  refine ⟨fun i H _ hi => by rw [hl] at hi; exact hi, fun i d H x H' _ e y => ?_, fun H _ => by rw [hl]; exact Nat.le_refl _, by rw [hl]; exact ok.2.2.2.2⟩
  obtain ⟨rfl, rfl⟩ := y
  unfold rgD at e
  rw [List.getElem?_map] at e
  cases q : (List.range (hi - lo).toNat)[i]? with
  | none => rw [q] at e; cases e
  | some k =>
    rw [q] at e
    have hk : k = i := by
      have := List.getElem?_eq_some_iff.mp q
      obtain ⟨z1, z2⟩ := this
      simpa using z2.symm
    subst hk
    cases e
    exact ⟨same_refl _, rfl⟩
def tiRg1 (t : TD) : TID := fun Γ Q => t Γ fun r Γ' => match r with
  | .fz (.int n) => RgOk 0 n ∧ Q (rgD 0 n) none Γ'
  | _ => False
def tiRg2 (ta tb : TD) : TID := fun Γ Q => ta Γ fun r Γ1 => match r with
  | .fz (.int i) => tb Γ1 fun r' Γ2 => (match r' with
    | .fz (.int j) => RgOk i j ∧ Q (rgD i j) none Γ2
    | _ => False)
  | _ => False
theorem pid_rg1 (hg : Gl X "range") (hm : X.mg "range" = none) (ha : PD X a ta) (hs : starEach [a] X.env = [(false, eval a X.env)] := by rfl) (hs' : starEach [a] X.env = (false, eval a X.env) :: starEach [] X.env := by rfl) : PID X tg (.Call (.Name "range" p) [a] [] pos) (tiRg1 ta) := by
  refine ⟨PI.imp (pi_range1 hg hm (pa_cons ha.run pa_nil hs') hs) fun σ H R ⟨Γ, g, q⟩ => ⟨Γ, g, ha.mono _ _ _ (fun r Γ' q v H' a rs => ?_) q⟩, fun Γ Q Q' h => ha.mono _ _ _ fun r Γ' q => ?_⟩
  · split at q
    · rename_i n
      have z := q.2 (Itr 0 (n - 0).toNat) H' _ a (src_rng q.1) fun _ _ _ _ _ _ => trivial
      rw [Int.sub_zero] at z
      exact ⟨n, by rw [show v = V.int n from rs], q.1.2.2.1, q.1.2.2.2.1, z⟩
    · exact q.elim
  · split at q
    · exact ⟨q.1, h _ _ _ q.2⟩
    · exact q
theorem pid_rg2 (hg : Gl X "range") (hm : X.mg "range" = none) (ha : PD X a ta) (hb : PD X b tb) (hs : starEach [a, b] X.env = [(false, eval a X.env), (false, eval b X.env)] := by rfl) (hs2 : starEach [b] X.env = [(false, eval b X.env)] := by rfl)
    (na : starEach [a, b] X.env = (false, eval a X.env) :: starEach [b] X.env := by rfl) (nb : starEach [b] X.env = (false, eval b X.env) :: starEach [] X.env := by rfl) : PID X tg (.Call (.Name "range" p) [a, b] [] pos) (tiRg2 ta tb) := by
  refine ⟨PI.imp (pi_range2 hg hm (pa_cons ha.run (pa_cons hb.run pa_nil nb) na) hs hs2) fun σ H R ⟨Γ, g, q⟩ => ⟨Γ, g, ha.mono _ _ _ (fun r Γ1 q v H1 a1 r1 => ?_) q⟩, fun Γ Q Q' h => ha.mono _ _ _ fun r Γ' q => ?_⟩
  · split at q
    · rename_i i
      refine ⟨Γ1, a1.rg, hb.mono _ _ _ (fun r' Γ2 q u H2 a2 r2 => ?_) q⟩
      split at q
      · rename_i j
        exact ⟨i, j, by rw [show v = V.int i from r1, show u = V.int j from r2], ⟨q.1.1, q.1.2.1, q.1.2.2.1, q.1.2.2.2.1⟩, q.2 _ H2 _ (a1.trans g a2) (src_rng q.1) fun _ _ _ _ _ _ => trivial⟩
      · exact q.elim
    · exact q.elim
  · split at q
    · refine hb.mono _ _ _ (fun r' Γ2 q => ?_) q
      split at q
      · exact ⟨q.1, h _ _ _ q.2⟩
      · exact q
    · exact q
/-- the pairs of enumerate -/
def enumD : Nat → List D → List D
  | _, [] => []
  | k, d :: r => .tuple [.int k, d] :: enumD (k + 1) r
theorem enumD_len : ∀ {k : Nat} {ds : List D}, (enumD k ds).length = ds.length
  | _, [] => rfl
  | k, d :: r => by simp [enumD, enumD_len (k := k + 1) (ds := r)]
theorem enumD_at : ∀ {k : Nat} {ds : List D} {i : Nat} {z : D}, (enumD k ds)[i]? = some z → ∃ d, ds[i]? = some d ∧ z = .tuple [.int ((k + i : Nat) : Int), d]
  | _, [], _, _, h => by simp [enumD] at h
  | k, d :: r, 0, z, h => by
    have : PyData.tuple [.int k, d] = z := by simpa [enumD] using h
    exact ⟨d, rfl, by rw [← this]; simp⟩
  | k, d :: r, i + 1, z, h => by
    obtain ⟨d', h1, h2⟩ := enumD_at (k := k + 1) (ds := r) (i := i) (z := z) (by simpa [enumD] using h)
    exact ⟨d', by simpa using h1, by rw [h2]; congr 3; omega⟩
theorem rep_pair {K : PySem.W.Frag} {H : Hp} {T : Addr} {i : Nat} {d : D} {x : V} (n : H T = none) (r : Rep K H d x) : Rep K (upd H T (.tup [.int (i : Nat), x])) (.tuple [.int ((0 + i : Nat) : Int), d]) (.ref T) := by
  refine ⟨T, _, rfl, .inl upd_same, .int (i : Nat), [x], rfl, ?_, x, [], rfl, r.imm (imm_same (same_upd n)), rfl⟩
  show V.int (i : Nat) = V.int ((0 + i : Nat) : Int)
  rw [Nat.zero_add]
def tiEnum (t : TD) (tup : Bool) : TID := fun Γ Q => t Γ fun r Γ' => match r with
  | .fz (.tuple ds) => tup = true ∧ Q (enumD 0 ds) none Γ'
  | .fz (.list ds) => tup = false ∧ Q (enumD 0 ds) none Γ'
  | _ => False
theorem tiEnum_mono {tup : Bool} (m : Mono t) : MonoI (tiEnum t tup) := fun Γ Q Q' h => m _ _ _ fun r Γ' q => by
  split at q
  · exact ⟨q.1, h _ _ _ q.2⟩
  · exact ⟨q.1, h _ _ _ q.2⟩
  · exact q
theorem pid_enumL {elts : List Expr} {kk : Nat} (hg : Gl X "enumerate") (hm : X.mg "enumerate" = none) (he : PD X e t) (hs : starEach [e] X.env = [(false, eval e X.env)] := by rfl) (hs' : starEach [e] X.env = (false, eval e X.env) :: starEach [] X.env := by rfl) :
    PID X (.Tuple elts kk tpos) (.Call (.Name "enumerate" p) [e] [] pos) (tiEnum t false) := by
  refine ⟨⟨fun pins s σ H R I ⟨Γ, g, q⟩ => ?_⟩, tiEnum_mono he.mono⟩
  have ha := pa_cons he.run pa_nil hs'
  refine Call_ (ld_blt I hg hm boot_enumerate (PyProof.Rows.callWith_type1 ?_ hs rfl))
  refine thn (ha.run pos pins s σ H (fun vs H1 => ∃ c ds ws, vs = [.ref c] ∧ FzL X.K H1 c ws ∧ Reps X.K H1 ds ws ∧ ∀ J (St : Hp → Prop), Src X.K (enumD 0 ds) J St → (∀ H2, Imm H1 H2 → St H2) → R J H1) I ⟨Γ, g, he.mono _ _ _ (fun r Γ' q v H' a rs => ?_) q⟩) fun us s1 hq => ?_
  · split at q
    · exact absurd q.1 (by decide)
    · obtain ⟨c, ws, rfl, h1, h2⟩ := rs
      exact ⟨c, _, ws, rfl, h1, h2, fun J St hJ hS => q.2 J H' St a hJ fun H2 _ _ i _ _ => hS H2 i⟩
    · exact q.elim
  · obtain ⟨vs, H1, I1, rv, c, ds, ws, rfl, h1, h2, q⟩ := hq
    obtain ⟨its, rw', pt, hz⟩ := I1.list h1.sq
    rw [show us = [Value.ref c] from Vals.ref1 rv]
    refine enum1_begins (begins_list c its.toArray) pt.isList fun h' hen hit hk => ?_
    refine wpAny_pyIter_enum hen ?_
    have I2 : Inv X pins σ H1 { s1 with heap := h' } := I1.kept (t' := s1.toks) hk
    refine ⟨s1.heap.objs.size + 1, [s1.heap.objs.size + 1, s1.heap.objs.size], _, _, H1, rfl, I2, turn_enum c (s1.heap.objs.size + 1) s1.heap.objs.size, ?_, fun b hb => ?_, q (Ite X.K c) (fun H => (∃ vs, FzL X.K H c vs ∧ Reps X.K H ds vs)) ?_ fun H2 i => ⟨ws, h1.imm i, h2.imm i⟩⟩
    · exact ⟨⟨.none, hen⟩, ⟨_, hit, rfl, rfl⟩, Nat.succ_ne_self _⟩
    · have hle : s1.heap.objs.size ≤ b := by
        have e' : b = s1.heap.objs.size + 1 ∨ b = s1.heap.objs.size := by simpa using hb
        rcases e' with rfl | rfl
        · exact Nat.le_succ _
        · exact Nat.le_refl _
      exact I1.fpOk hle (I1.hok.fresh hle)
    · refine ⟨fun i H ⟨vs, h1, h2⟩ hi => ?_, fun i d H x H' ⟨vs, h1, h2⟩ e y => ?_, fun H ⟨vs, h1, h2⟩ => ⟨vs, h1.sq, by rw [enumD_len]; exact Nat.le_of_eq h2.len⟩, ?_⟩
      · rw [enumD_len] at hi
        obtain ⟨v, e, _⟩ := h2.get (List.getElem?_eq_getElem hi)
        exact ⟨vs, v, h1.sq, e⟩
      · obtain ⟨d', e1, rfl⟩ := enumD_at e
        obtain ⟨T, w, rfl, n, rfl, y⟩ := y
        obtain ⟨v, e2, r⟩ := h2.get e1
        have := (y vs h1.sq).symm.trans e2
        cases this
        exact ⟨same_upd n, rep_pair n r⟩
      · rw [enumD_len, ← h2.len]; exact hz
theorem pid_enumT {elts : List Expr} {kk : Nat} (hg : Gl X "enumerate") (hm : X.mg "enumerate" = none) (he : PD X e t) (hs : starEach [e] X.env = [(false, eval e X.env)] := by rfl) (hs' : starEach [e] X.env = (false, eval e X.env) :: starEach [] X.env := by rfl) :
    PID X (.Tuple elts kk tpos) (.Call (.Name "enumerate" p) [e] [] pos) (tiEnum t true) := by
  refine ⟨⟨fun pins s σ H R I ⟨Γ, g, q⟩ => ?_⟩, tiEnum_mono he.mono⟩
  have ha := pa_cons he.run pa_nil hs'
  refine Call_ (ld_blt I hg hm boot_enumerate (PyProof.Rows.callWith_type1 ?_ hs rfl))
  refine thn (ha.run pos pins s σ H (fun vs H1 => ∃ c ds ws, vs = [.ref c] ∧ SqT X.K H1 c ws ∧ Reps X.K H1 ds ws ∧ ∀ J (St : Hp → Prop), Src X.K (enumD 0 ds) J St → (∀ H2, Imm H1 H2 → St H2) → R J H1) I ⟨Γ, g, he.mono _ _ _ (fun r Γ' q v H' a rs => ?_) q⟩) fun us s1 hq => ?_
  · split at q
    · obtain ⟨c, ws, rfl, h1, h2⟩ := rs
      exact ⟨c, _, ws, rfl, h1.sq, h2, fun J St hJ hS => q.2 J H' St a hJ fun H2 _ _ i _ _ => hS H2 i⟩
    · exact absurd q.1 (by decide)
    · exact q.elim
  · obtain ⟨vs, H1, I1, rv, c, ds, ws, rfl, h1, h2, q⟩ := hq
    obtain ⟨its, rw', pt, hz⟩ := I1.tuple h1
    rw [show us = [Value.ref c] from Vals.ref1 rv]
    have hc : c < s1.heap.objs.size := pt.lt
    refine enum1_begins (begins_tuple c its.toArray) (show s1.heap.IsTuple c its.toArray from pt) fun h' hen hit hk => ?_
    refine wpAny_pyIter_enum hen ?_
    have I2 : Inv X pins σ H1 { s1 with heap := h' } := I1.kept (t' := s1.toks) hk
    refine ⟨s1.heap.objs.size + 1, [s1.heap.objs.size + 1, s1.heap.objs.size], _, _, H1, rfl, I2, turn_enumT c (s1.heap.objs.size + 1) s1.heap.objs.size, ?_, fun b hb => ?_, q (IteT X.K c) (fun H => (∃ vs, SqT X.K H c vs ∧ Reps X.K H ds vs)) ?_ fun H2 i => ⟨ws, SqT.imm h1 i, h2.imm i⟩⟩
    · exact ⟨⟨.none, hen⟩, ⟨_, hit, rfl, rfl⟩, Nat.succ_ne_self _, Nat.ne_of_lt hc, Nat.ne_of_lt (Nat.lt_succ_of_lt hc)⟩
    · have hle : s1.heap.objs.size ≤ b := by
        have e' : b = s1.heap.objs.size + 1 ∨ b = s1.heap.objs.size := by simpa using hb
        rcases e' with rfl | rfl
        · exact Nat.le_succ _
        · exact Nat.le_refl _
      exact I1.fpOk hle (I1.hok.fresh hle)
    · refine ⟨fun i H ⟨vs, h1, h2⟩ hi => ?_, fun i d H x H' ⟨vs, h1, h2⟩ e y => ?_, fun H ⟨vs, h1, h2⟩ => ⟨vs, h1, by rw [enumD_len]; exact h2.len⟩, ?_⟩
      · rw [enumD_len] at hi
        obtain ⟨v, e, _⟩ := h2.get (List.getElem?_eq_getElem hi)
        exact ⟨vs, v, h1, e⟩
      · obtain ⟨d', e1, rfl⟩ := enumD_at e
        obtain ⟨T, w, rfl, n, rfl, y⟩ := y
        obtain ⟨v, e2, r⟩ := h2.get e1
        have := (y vs h1).symm.trans e2
        cases this
        exact ⟨same_upd n, rep_pair n r⟩
      · rw [enumD_len, ← h2.len]; exact hz
end
end DL
/-! DL10: for; list comprehensions. -/
namespace DL
open PySem PySem.Spec PyProof.Rows L2
section
variable {X : Cx} {tg iter elt : Expr} {pos : Pos}

/-! ### for -/
theorem EndD.Le.loop {D D' : EndD} (h : D.Le D') {n : G → Prop} : EndD.Le { D with nx := n, ct := n, bk := D.nx } { D' with nx := n, ct := n, bk := D'.nx } := ⟨fun _ z => z, h.rt, h.nx, fun _ z => z⟩
structure MonoF (tg : TGD) (tb : TSD) : Prop where
  mg : ∀ d Γ (Q Q' : G → Prop), (∀ Γ', Q Γ' → Q' Γ') → tg d Γ Q → tg d Γ Q'
  mb : MonoS tb
structure ForR (E : EndD) (ds : List D) (lk : Lk) (Γ1 : G) (tg : TGD) (tb : TSD) : Prop where
  out : ∃ inv : List D → List D → G → Prop, inv [] ds Γ1 ∧ (∀ done rest Γ, done ++ rest = ds → inv done rest Γ → lkOk lk Γ) ∧
    (∀ done d rest Γ, done ++ d :: rest = ds → inv done (d :: rest) Γ → tg d Γ fun Γ2 => tb { E with nx := inv (done ++ [d]) rest, ct := inv (done ++ [d]) rest, bk := E.nx } Γ2) ∧ ∀ Γ, inv ds [] Γ → E.nx Γ
def tsFor (ti : TID) (tg : TGD) (tb : TSD) : TSD := fun E Γ => ti Γ fun ds lk Γ1 => MonoF tg tb → ForR E ds lk Γ1 tg tb
theorem pd_for {body : List Stmt} {ti : TID} {tgd : TGD} {tb : TSD} (hp : PassesOwn (model X.prog X.w) X.A X.env X.xe) (hc : X.calm = true) (hi : PID X tg iter ti) (hg : PGD X tg tgd) (hb : PDSs X body tb)
    (hs : ∀ x, foldedSetIterable iter X.env x = pure x := by intro _; rfl) : PDS X (.For tg iter body [] pos) (tsFor ti tgd tb) := by
  refine ⟨PS.imp (ps_for hp hc hi.run hg.run hb.run hs) fun D σ H ⟨Γ, g, q⟩ => ⟨Γ, g, hi.mono _ _ _ (fun ds lk Γ1 q J H1 St a1 src stb => ?_) q⟩, fun D D' Γ h => hi.mono _ _ _ fun ds lk Γ1 q mf => let ⟨inv, i0, il, turn, last⟩ := (q mf).out; ⟨inv, i0, il, fun done d rest Γ2 e i2 => hg.mono _ _ _ _ (fun Γ3 q => hb.mono _ _ _ h.loop q) (turn done d rest Γ2 e i2), fun Γ2 i2 => h.nx _ (last Γ2 i2)⟩⟩
  obtain ⟨inv, i0, il, turn, last⟩ := (q ⟨hg.mono, hb.mono⟩).out
  have g1 := a1.rg
  refine ⟨fun i m σ' H' => ∃ done rest Γ', done ++ rest = ds ∧ i = done.length ∧ m = rest.length ∧ Aft X.K H1 Γ1 H' σ' Γ' ∧ inv done rest Γ', ⟨ds.length, [], ds, Γ1, rfl, rfl, rfl, Aft.refl g1, i0⟩, ?_⟩
  rintro i m σ2 H2 ⟨done, rest, Γ2, e, rfl, rfl, a2, i2⟩
  have a12 := a1.trans g a2
  have st2 : St H2 := stb H2 σ2 Γ2 (a2.imm g1) a2.rg (il done rest Γ2 e i2)
  cases rest with
  | nil =>
    rw [List.append_nil] at e
    subst e
    exact .inl ⟨src.stop H2 st2, last Γ2 i2 σ2 H2 a12⟩
  | cons d rest =>
    have ed : ds[done.length]? = some d := by
      rw [← e, List.getElem?_append_right (Nat.le_refl _), Nat.sub_self]
      rfl
    refine .inr ⟨src.go _ H2 st2 (by rw [← e, List.length_append, List.length_cons]; omega), fun σ' H' => ∃ Γ', Aft X.K H1 Γ1 H' σ' Γ' ∧ inv (done ++ [d]) rest Γ', fun σ' H' ⟨Γ', a', i'⟩ => ⟨rest.length, by simp, done ++ [d], rest, Γ', by rw [← e]; simp, by simp, rfl, a', i'⟩, fun x H3 y => ?_⟩
    obtain ⟨sm, rx⟩ := src.yld _ d H2 x H3 st2 ed y
    have a3 := Aft.same a2.rg sm
    refine ⟨Γ2, d, a3.rg, rx, hg.mono _ _ _ _ (fun Γ4 q σ4 H4 a4 => ?_) (turn done d rest Γ2 e i2)⟩
    have a14 := (a2.trans g1 a3).trans g1 a4
    have a04 := a1.trans g a14
    refine ⟨Γ4, a4.rg, hb.mono _ _ _ ?_ q⟩
    exact ⟨fun Γ5 i5 σ5 H5 a5 => ⟨Γ5, a14.trans g1 a5, i5⟩, fun r Γ5 q v σ5 H5 a5 rs => q v σ5 H5 (a04.trans g a5) (rs.from a04), fun Γ5 q σ5 H5 a5 => q σ5 H5 (a04.trans g a5), fun Γ5 i5 σ5 H5 a5 => ⟨Γ5, a14.trans g1 a5, i5⟩⟩

/-! ### the targets of comprehensions -/
/-- names into the slots vs -/
structure PGC (X : Cx) (tg : Expr) (vs : List Nat) (t : TGD) : Prop where
  run : PG X tg fun v σ H Q => ∃ Γ d, RG X.K H σ Γ ∧ Rep X.K H d v ∧ t d Γ fun Γ' => ∀ σ', Aft X.K H Γ H σ' Γ' → wipe σ' vs = wipe σ vs → Q σ' H
  mono : ∀ d Γ (Q Q' : G → Prop), (∀ Γ', Q Γ' → Q' Γ') → t d Γ Q → t d Γ Q'
theorem pgc_name (i : Nat) {x : Str} (hN : X.N.Nodup) (hi : X.N[i]? = some x := by rfl) (hx : Loc X.env.scope x := by first | exact Or.inl rfl | exact Or.inr rfl) (hf : X.fn x = true ∨ X.env.scope.names.lookup x = some .local := by first | exact .inl rfl | exact .inr rfl) :
    PGC X (.Name x pos) [i] (tgName i) := by
  refine ⟨PG.imp (pg_name hN hi hx hf) fun v σ H Q ⟨Γ, d, g, r, q⟩ => ?_, fun d Γ Q Q' h q => h _ q⟩
  refine q _ (aft_set (Aft.refl g) (r := .fz d) (show Res X.K H σ Γ H Γ v (.fz d) from r) rfl) ?_
  show (σ.set i (some v)).set i none = σ.set i none
  rw [List.set_set]
def tgTwo (i j : Nat) : TGD := fun d Γ Q => match d with
  | .tuple [a, b] => Q ((Γ.set i (.fz a)).set j (.fz b))
  | _ => False
theorem pgc_two (i j : Nat) {x y : Str} {p1 p2 : Pos} {k : Nat} (hc : X.calm = true) (hN : X.N.Nodup) (hi : X.N[i]? = some x := by rfl) (hj : X.N[j]? = some y := by rfl) (hx : Loc X.env.scope x := by first | exact Or.inl rfl | exact Or.inr rfl) (hy : Loc X.env.scope y := by first | exact Or.inl rfl | exact Or.inr rfl)
    (hf : X.fn x = true ∨ X.env.scope.names.lookup x = some .local := by first | exact .inl rfl | exact .inr rfl) (hf2 : X.fn y = true ∨ X.env.scope.names.lookup y = some .local := by first | exact .inl rfl | exact .inr rfl) (hij : i ≠ j := by decide)
    (h1 : (assignEach [.Name x p1, .Name y p2] X.env).map (·.2) = assign (.Name x p1) X.env :: (assignEach [.Name y p2] X.env).map (·.2) := by rfl) (h2 : (assignEach [.Name y p2] X.env).map (·.2) = assign (.Name y p2) X.env :: (assignEach [] X.env).map (·.2) := by rfl)
    (hn : (assignEach [.Name x p1, .Name y p2] X.env).length = 2 := by rfl) (hst : (assignEach [.Name x p1, .Name y p2] X.env).findIdx? (·.1) = none := by rfl) : PGC X (.Tuple [.Name x p1, .Name y p2] k pos) [i, j] (tgTwo i j) := by
  refine ⟨PG.imp (pg_tup hc (pgs_cons (pg_name hN hi hx hf) (pgs_cons (pg_name hN hj hy hf2) pgs_nil h2) h1) hn hst) fun v σ H Q ⟨Γ, d, g, r, q⟩ => ?_, fun d Γ Q Q' h q => ?_⟩
  · unfold tgTwo at q
    split at q
    · obtain ⟨a, vs, rfl, hs, rp⟩ := r
      obtain ⟨v1, w1, rfl, r1, v2, w2, rfl, r2, e3⟩ := rp
      cases (show w2 = [] from e3)
      refine ⟨a, _, rfl, hs.sq, rfl, v1, [v2], rfl, v2, [], rfl, rfl, q _ ?_ ?_⟩
      · have a1 := aft_set (i := i) (Aft.refl g) (r := .fz _) (show Res X.K H σ Γ H Γ v1 (.fz _) from r1) rfl
        exact aft_set (i := j) a1 (r := .fz _) (show Res X.K H _ Γ H _ v2 (.fz _) from r2) rfl
      · show ((((σ.set i (some v1)).set j (some v2)).set j none).set i none) = ((σ.set j none).set i none)
        rw [List.set_set, List.set_comm _ _ hij, List.set_set]
    · exact q.elim
  · unfold tgTwo at q ⊢
    split at q
    · exact h _ q
    · exact q
/-! ### list comprehensions -/
def wipeD (Γ : G) : List Nat → G
  | [] => Γ
  | v :: vs => (wipeD Γ vs).set v .no
def unwipe (Γ Γ0 : G) : List Nat → G
  | [] => Γ
  | v :: vs => (unwipe Γ Γ0 vs).set v (Γ0.getD v .no)
theorem wipeD_at {Γ : G} {i : Nat} {s : SV} : ∀ {vs : List Nat}, (wipeD Γ vs)[i]? = some s → s = .no ∨ (Γ[i]? = some s ∧ i ∉ vs)
  | [], h => .inr ⟨h, by simp⟩
  | v :: vs, h => by
    unfold wipeD at h
    by_cases e : v = i
    · subst e
      rcases Nat.lt_or_ge v (wipeD Γ vs).length with z | z
      · rw [List.getElem?_set_self z] at h
        exact .inl (Option.some.inj h).symm
      · rw [List.getElem?_eq_none (by rw [List.length_set]; exact z)] at h; cases h
    · rw [List.getElem?_set_ne e] at h
      rcases wipeD_at h with z | ⟨z1, z2⟩
      · exact .inl z
      · exact .inr ⟨z1, by simp [z2, Ne.symm e]⟩
theorem wipeD_len {Γ : G} : ∀ {vs : List Nat}, (wipeD Γ vs).length = Γ.length
  | [] => rfl
  | v :: vs => by unfold wipeD; rw [List.length_set, wipeD_len]
theorem unwipe_at {Γ Γ0 : G} {i : Nat} {s : SV} : ∀ {vs : List Nat}, (unwipe Γ Γ0 vs)[i]? = some s → (Γ[i]? = some s ∧ i ∉ vs) ∨ (i ∈ vs ∧ (s = .no ∨ Γ0[i]? = some s))
  | [], h => .inl ⟨h, by simp⟩
  | v :: vs, h => by
    unfold unwipe at h
    by_cases e : v = i
    · subst e
      rcases Nat.lt_or_ge v (unwipe Γ Γ0 vs).length with z | z
      · rw [List.getElem?_set_self z, List.getD_eq_getElem?_getD] at h
        refine .inr ⟨by simp, ?_⟩
        cases q : Γ0[v]? with
        | none => rw [q] at h; exact .inl (Option.some.inj h).symm
        | some s' => rw [q] at h; exact .inr h
      · rw [List.getElem?_eq_none (by rw [List.length_set]; exact z)] at h; cases h
    · rw [List.getElem?_set_ne e] at h
      rcases unwipe_at h with ⟨z1, z2⟩ | ⟨z1, z2⟩
      · exact .inl ⟨z1, by simp [z2, Ne.symm e]⟩
      · exact .inr ⟨by simp [z1], z2⟩
theorem unwipe_len {Γ Γ0 : G} : ∀ {vs : List Nat}, (unwipe Γ Γ0 vs).length = Γ.length
  | [] => rfl
  | v :: vs => by unfold unwipe; rw [List.length_set, unwipe_len]
theorem wipe_keep {σ : Sl} {i : Nat} {x : V} : ∀ {vs : List Nat}, i ∉ vs → σ[i]? = some (some x) → (wipe σ vs)[i]? = some (some x)
  | [], _, h => h
  | v :: vs, n, h => by
    unfold wipe
    simp only [List.mem_cons, not_or] at n
    rw [List.getElem?_set_ne (Ne.symm n.1)]
    exact wipe_keep n.2 h
section
variable {K : PySem.W.Frag} {H H' : Hp} {σ : Sl} {Γ Γ' Γ1 : G} {vs : List Nat}
theorem rg_wipe (g : RG K H σ Γ) : RG K H (wipe σ vs) (wipeD Γ vs) := by
  refine ⟨by rw [wipeD_len, wipe_length]; exact g.len, fun i d e => ?_, fun i p o e => ?_, fun i v e => ?_, fun i j p o o' e e' => ?_⟩
  · rcases wipeD_at e with z | ⟨z1, z2⟩
    · cases z
    · obtain ⟨v, h1, h2⟩ := g.fz _ _ z1
      exact ⟨v, wipe_keep z2 h1, h2⟩
  · rcases wipeD_at e with z | ⟨z1, z2⟩
    · cases z
    · obtain ⟨h1, h2⟩ := g.ow _ _ _ z1
      exact ⟨wipe_keep z2 h1, h2⟩
  · rcases wipeD_at e with z | ⟨z1, z2⟩
    · cases z
    · exact wipe_keep z2 (g.raw _ _ z1)
  · rcases wipeD_at e with z | ⟨z1, z2⟩
    · cases z
    · rcases wipeD_at e' with z | ⟨z1', z2'⟩
      · cases z
      · exact g.one _ _ _ _ _ z1 z1'
theorem own_wipe {p : Addr} (h : own (wipeD Γ vs) p) : own Γ p := by
  obtain ⟨i, o, e⟩ := h
  rcases wipeD_at e with z | ⟨z1, _⟩
  · cases z
  · exact ⟨i, o, z1⟩
/-- back from the block -/
theorem aft_unwipe (g1 : RG K H σ Γ1) (a : Aft K H (wipeD Γ1 vs) H' (wipe σ vs) Γ') : Aft K H Γ1 H' σ (unwipe Γ' Γ1 vs) ∧ ∀ p, own (unwipe Γ' Γ1 vs) p → own Γ' p ∨ own Γ1 p := by
  have gw := rg_wipe (vs := vs) g1
  have im := a.imm gw
  have up : ∀ {i : Nat} {v : V}, (wipe σ vs)[i]? = some (some v) → σ[i]? = some (some v) := fun e => (wipe_some e).1
  -- an owned slot that was wiped stays apart
  have apart : ∀ {i j : Nat} {p : Addr} {o o' : O}, i ∈ vs → Γ1[i]? = some (.ow p o) → Γ'[j]? = some (.ow p o') → False := fun {i j p o o'} hi e e' => by
    rcases a.sh p ⟨j, o', e'⟩ with ⟨k, o2, z⟩ | z
    · rcases wipeD_at z with z | ⟨z1, z2⟩
      · cases z
      · have := g1.one _ _ _ _ _ e z1
        subst this
        exact z2 hi
    · exact g1.there ⟨i, o, e⟩ z
  have nown : ∀ {i : Nat} {p : Addr} {o : O}, i ∈ vs → Γ1[i]? = some (.ow p o) → ¬ own (wipeD Γ1 vs) p := fun {i p o} hi e ⟨k, o2, z⟩ => by
    rcases wipeD_at z with z | ⟨z1, z2⟩
    · cases z
    · have := g1.one _ _ _ _ _ e z1
      subst this
      exact z2 hi
  have ow2 : ∀ p, own (unwipe Γ' Γ1 vs) p → own Γ' p ∨ own Γ1 p := fun p ⟨i, o, e⟩ => by
    rcases unwipe_at e with ⟨z, _⟩ | ⟨_, z⟩
    · exact .inl ⟨i, o, z⟩
    · rcases z with z | z
      · cases z
      · exact .inr ⟨i, o, z⟩
  refine ⟨⟨fun c u e n => a.keep c u e fun z => n (own_wipe z), ⟨?_, fun i d e => ?_, fun i p o e => ?_, fun i v e => ?_, fun i j p o o' e e' => ?_⟩, fun c q => ?_⟩, ow2⟩
  · rw [unwipe_len, a.rg.len, wipe_length]
  · rcases unwipe_at e with ⟨z, _⟩ | ⟨_, z⟩
    · obtain ⟨v, h1, h2⟩ := a.rg.fz _ _ z
      exact ⟨v, up h1, h2⟩
    · rcases z with z | z
      · cases z
      · obtain ⟨v, h1, h2⟩ := g1.fz _ _ z
        exact ⟨v, h1, h2.imm im⟩
  · rcases unwipe_at e with ⟨z, _⟩ | ⟨hi, z⟩
    · obtain ⟨h1, h2⟩ := a.rg.ow _ _ _ z
      exact ⟨up h1, h2⟩
    · rcases z with z | z
      · cases z
      · obtain ⟨h1, h2⟩ := g1.ow _ _ _ z
        exact ⟨h1, h2.keep (fun u q => a.keep _ _ q (nown hi z)) im⟩
  · rcases unwipe_at e with ⟨z, _⟩ | ⟨_, z⟩
    · exact up (a.rg.raw _ _ z)
    · rcases z with z | z
      · cases z
      · exact g1.raw _ _ z
  · rcases unwipe_at e with ⟨z, _⟩ | ⟨hi, z⟩
    · rcases unwipe_at e' with ⟨z', _⟩ | ⟨hj, z'⟩
      · exact a.rg.one _ _ _ _ _ z z'
      · rcases z' with z' | z'
        · cases z'
        · exact (apart hj z' z).elim
    · rcases z with z | z
      · cases z
      · rcases unwipe_at e' with ⟨z', _⟩ | ⟨hj, z'⟩
        · exact (apart hi z z').elim
        · rcases z' with z' | z'
          · cases z'
          · exact g1.one _ _ _ _ _ z z'
  · rcases ow2 c q with z | z
    · rcases a.sh c z with w | w
      · exact .inl (own_wipe w)
      · exact .inr w
    · exact .inl z
end
theorem wipe_wipe (σ : Sl) (vs : List Nat) : wipe (wipe σ vs) vs = wipe σ vs := by
  have idem : ∀ (us ws : List Nat) (τ : Sl), (∀ u ∈ us, u ∈ ws) → wipe (wipe τ ws) us = wipe τ ws := by
    intro us ws τ
    induction us with
    | nil => intro _; rfl
    | cons u us ih =>
      intro h
      show (wipe (wipe τ ws) us).set u none = wipe τ ws
      rw [ih fun z hz => h z (List.mem_cons_of_mem _ hz)]
      have hu := h u List.mem_cons_self
      clear ih h
      induction ws with
      | nil => cases hu
      | cons w ws ih =>
        show ((wipe τ ws).set w none).set u none = (wipe τ ws).set w none
        by_cases e : u = w
        · subst e; rw [List.set_set]
        · have hu' : u ∈ ws := by simpa [e] using hu
          rw [List.set_comm _ _ (Ne.symm e), ih hu']
  exact idem vs vs σ fun _ h => h
structure PBs (X : Cx) (ifs : List Expr) (t : TB) : Prop where
  run : PTs X ifs (liftB X.K t)
  mono : MonoB t
def tbYes : TB := fun Γ Q => Q true Γ
theorem PTs.imp {ifs : List Expr} {t t' : TT} (h : PTs X ifs t) (hi : ∀ σ H Q, t' σ H Q → t σ H Q) : PTs X ifs t' := ⟨fun pins s σ H Q I q => h.run pins s σ H Q I (hi _ _ _ q)⟩
theorem pbs_nil : PBs X [] tbYes := ⟨PTs.imp pts_nil fun σ H Q ⟨Γ, g, q⟩ => q H (Aft.refl g), fun Γ Q Q' h q => h _ _ q⟩
theorem pbs_one {c : Expr} {t : TB} (h : PB X c t) : PBs X [c] t := ⟨pts_one h.run, h.mono⟩
structure MonoC (tg : TGD) (tt : TB) (te : TD) : Prop where
  mg : ∀ d Γ (Q Q' : G → Prop), (∀ Γ', Q Γ' → Q' Γ') → tg d Γ Q → tg d Γ Q'
  mt : MonoB tt
  me : Mono te
structure LcR (ds : List D) (lk : Lk) (Γ1 : G) (tg : TGD) (tt : TB) (te : TD) (vs : List Nat) (Q : SV → G → Prop) : Prop where
  out : ∃ inv : List D → List D → List D → G → Prop, inv [] ds [] (wipeD Γ1 vs) ∧
    (∀ done rest acc Γ, done ++ rest = ds → inv done rest acc Γ → lkOk lk Γ) ∧
    (∀ done d rest acc Γ, done ++ d :: rest = ds → inv done (d :: rest) acc Γ → tg d Γ fun Γ2 => tt Γ2 fun b Γ3 => Br b (te Γ3 fun r Γ4 => ∃ x, r = .fz x ∧ inv (done ++ [d]) rest (acc ++ [x]) (wipeD Γ4 vs)) (inv (done ++ [d]) rest acc (wipeD Γ3 vs))) ∧
    ∀ acc Γ, inv ds [] acc Γ → ∀ p, Q (.ow p (.lst acc)) (unwipe Γ Γ1 vs)
def tdLc (ti : TID) (tg : TGD) (tt : TB) (te : TD) (vs : List Nat) : TD := fun Γ Q => ti Γ fun ds lk Γ1 => MonoC tg tt te → LcR ds lk Γ1 tg tt te vs Q
/-- the reading of the comprehension at the layer's level, from that over data -/
theorem tdLc_ok {K : PySem.W.Frag} {ti : TID} {tgd : TGD} {tt : TB} {te : TD} {vs : List Nat} (mi : MonoI ti) (mg : ∀ d Γ (Q Q' : G → Prop), (∀ Γ', Q Γ' → Q' Γ') → tgd d Γ Q → tgd d Γ Q') (mt : MonoB tt) (me : Mono te)
    {σ : Sl} {H : Hp} {Q : VK} (q : lift K (tdLc ti tgd tt te vs) σ H Q) :
    tLc (liftI K ti) (fun v σ H Q => ∃ Γ d, RG K H σ Γ ∧ Rep K H d v ∧ tgd d Γ fun Γ' => ∀ σ', Aft K H Γ H σ' Γ' → wipe σ' vs = wipe σ vs → Q σ' H) (liftB K tt) (lift K te) vs σ H Q := by
  obtain ⟨Γ, g0, q⟩ := q
  refine ⟨Γ, g0, mi _ _ _ (fun ds lk Γ1 q J H1 St a1 src stb l hl => ?_) q⟩
  obtain ⟨inv, i0, il, turn, last⟩ := (q ⟨mg, mt, me⟩).out
  have g1 := a1.rg
  have gw := rg_wipe (vs := vs) g1
  have s1 : Same H1 (upd H1 l (.lst [])) := same_upd hl
  have b0 : Aft K H1 (wipeD Γ1 vs) (upd H1 l (.lst [])) (wipe σ vs) (wipeD Γ1 vs) := Aft.same gw s1
  refine ⟨fun i m H' => ∃ done rest acc Γ' ws, done ++ rest = ds ∧ i = done.length ∧ m = rest.length ∧ acc.length ≤ done.length ∧ Aft K H1 (wipeD Γ1 vs) H' (wipe σ vs) Γ' ∧ H' l = some (.lst ws) ∧ Reps K H' acc ws ∧ ¬ own Γ' l ∧ inv done rest acc Γ',
    ⟨ds.length, [], ds, [], wipeD Γ1 vs, [], rfl, rfl, rfl, Nat.le_refl _, b0, upd_same, rfl, fun z => gw.there z hl, i0⟩, ?_⟩
  rintro i m H2 ⟨done, rest, acc, Γ2, ws, e, rfl, rfl, hac, a2, el, rl, nl, i2⟩
  have st2 : St H2 := stb H2 _ Γ2 (a2.imm gw) a2.rg (il done rest acc Γ2 e i2)
  cases rest with
  | nil =>
    rw [List.append_nil] at e
    subst e
    obtain ⟨a3, ow3⟩ := aft_unwipe g1 a2
    refine .inl ⟨src.stop H2 st2, last acc Γ2 i2 l (.ref l) H2 (a1.trans g0 a3) ⟨rfl, ⟨ws, el, rl⟩, fun z => ?_, a1.fresh (.inr hl)⟩⟩
    rcases ow3 l z with z | z
    · exact nl z
    · exact g1.there z hl
  | cons d rest =>
    have ed : ds[done.length]? = some d := by
      rw [← e, List.getElem?_append_right (Nat.le_refl _), Nat.sub_self]
      rfl
    have hlt : done.length < ds.length := by rw [← e, List.length_append, List.length_cons]; omega
    refine .inr ⟨src.go _ H2 st2 hlt, fun H' => ∃ acc' Γ' ws', acc'.length ≤ (done ++ [d]).length ∧ Aft K H1 (wipeD Γ1 vs) H' (wipe σ vs) Γ' ∧ H' l = some (.lst ws') ∧ Reps K H' acc' ws' ∧ ¬ own Γ' l ∧ inv (done ++ [d]) rest acc' Γ', fun H' ⟨acc', Γ', ws', z1, z2, z3, z4, z5, z6⟩ => ⟨rest.length, by simp, done ++ [d], rest, acc', Γ', ws', by rw [← e]; simp, by simp, rfl, z1, z2, z3, z4, z5, z6⟩, fun x H3 y => ?_⟩
    obtain ⟨sm, rx⟩ := src.yld _ d H2 x H3 st2 ed y
    have a3 := Aft.same a2.rg sm
    have a13 := a2.trans gw a3
    -- l stays l
    have keepl : ∀ {H H' : Hp} {σ' σ'' : Sl} {Γ Γ' : G} {us : List V}, RG K H σ'' Γ → Aft K H Γ H' σ' Γ' → H l = some (.lst us) → ¬ own Γ l → H' l = some (.lst us) ∧ ¬ own Γ' l := fun {H H' σ' σ'' Γ Γ' us} g a e n => by
      refine ⟨a.keep _ _ e n, fun z => ?_⟩
      rcases a.sh l z with z | z
      · exact n z
      · rw [e] at z; cases z
    refine ⟨Γ2, d, a3.rg, rx, mg _ _ _ _ (fun Γ4 q σ4 a4 hw => ?_) (turn done d rest acc Γ2 e i2)⟩
    refine ⟨hw.trans (wipe_wipe σ vs), Γ4, a4.rg, mt _ _ _ (fun b Γ5 q H5 a5 => ?_) q⟩
    obtain ⟨l3, n3⟩ := keepl a2.rg a3 el nl
    obtain ⟨l4, n4⟩ := keepl a3.rg a4 l3 n3
    obtain ⟨l5, n5⟩ := keepl a4.rg a5 l4 n4
    have im5 : Imm H2 H5 := ((imm_same sm).trans (a4.imm a3.rg)).trans (a5.imm a4.rg)
    -- the slots of the block forgotten again
    have wiped : ∀ {H' : Hp} {Γ' : G}, Aft K H1 (wipeD Γ1 vs) H' σ4 Γ' → Aft K H1 (wipeD Γ1 vs) H' (wipe σ vs) (wipeD Γ' vs) := fun {H' Γ'} a => by
      refine ⟨a.keep, ?_, fun c z => a.sh c (own_wipe z)⟩
      have := rg_wipe (vs := vs) a.rg
      rw [hw, wipe_wipe] at this
      exact this
    have a15 := (a13.trans gw a4).trans gw a5
    rw [br_iff] at q
    split at q
    · rename_i eb
      rw [if_pos eb]
      refine ⟨Γ5, a5.rg, me _ _ _ (fun r Γ6 q v H6 a6 r6 => ?_) q⟩
      obtain ⟨x', rfl, i6⟩ := q
      obtain ⟨l6, n6⟩ := keepl a5.rg a6 l5 n5
      have im6 := im5.trans (a6.imm a5.rg)
      have mu : Mut (H6 l) := by rw [l6]; trivial
      have im7 : Imm H6 (upd H6 l (.lst (ws ++ [v]))) := Imm.upd (.inr mu)
      have hlen : acc.length < ds.length := Nat.lt_of_le_of_lt hac hlt
      refine ⟨ws, l6, by rw [rl.len]; exact Nat.lt_of_lt_of_le hlen src.le, acc ++ [x'], wipeD Γ6 vs, ws ++ [v], ?_, ?_, upd_same, ?_, fun z => n6 (own_wipe z), i6⟩
      · rw [List.length_append, List.length_append]
        exact Nat.add_le_add_right hac 1
      · have a16 := wiped (a15.trans gw a6)
        refine ⟨fun c u z1 z2 => ?_, ?_, a16.sh⟩
        · have nc : c ≠ l := fun z => by rw [z, hl] at z1; cases z1
          rw [upd_ne nc]
          exact a16.keep c u z1 z2
        · have g6 := a16.rg
          refine ⟨g6.len, fun j dd z => ?_, fun j p o z => ?_, g6.raw, g6.one⟩
          · obtain ⟨w, w1, w2⟩ := g6.fz _ _ z
            exact ⟨w, w1, w2.imm im7⟩
          · obtain ⟨w1, w2⟩ := g6.ow _ _ _ z
            exact ⟨w1, w2.keep (fun u => keep_upd p u fun y => n6 (by rw [← y]; exact own_wipe ⟨j, o, z⟩)) im7⟩
      · exact ((rl.imm im6).append (Reps.one r6)).imm im7
    · rename_i eb
      rw [if_neg eb]
      refine ⟨acc, wipeD Γ5 vs, ws, ?_, wiped a15, l5, rl.imm im5, fun z => n5 (own_wipe z), q⟩
      rw [List.length_append]
      exact Nat.le_succ_of_le hac
variable {ti : TID} {tgd : TGD} {tt : TB} {te : TD} {ifs : List Expr} {scope : Scope}
theorem tdLc_mono {vs : List Nat} (mi : MonoI ti) (mg : ∀ d Γ (Q Q' : G → Prop), (∀ Γ', Q Γ' → Q' Γ') → tgd d Γ Q → tgd d Γ Q') (mt : MonoB tt) (me : Mono te) : Mono (tdLc ti tgd tt te vs) := fun Γ Q Q' hq =>
  mi _ _ _ fun ds lk Γ1 q mc => let ⟨inv, i0, il, turn, last⟩ := (q mc).out; ⟨inv, i0, il, turn, fun acc Γ2 i2 p => hq _ _ (last acc Γ2 i2 p)⟩
theorem pd_lc (own : List (Str × Nat)) (hc : X.calm = true) (hN : X.N.Nodup) (hi : PID X tg iter ti) (ok : BlkOk X.N X.env.scope scope own) (hg : ∀ (s : Shared) (H : Hp) (C : Addr) (cl : List (Str × Addr)) (fp : List Addr), PGC (X.blk s H scope (compEnvC scope cl C X.env) fp) tg (own.map (·.2)) tgd)
    (ht : ∀ (s : Shared) (H : Hp) (C : Addr) (cl : List (Str × Addr)) (fp : List Addr), PBs (X.blk s H scope (compEnvC scope cl C X.env) fp) ifs tt) (he : ∀ (s : Shared) (H : Hp) (C : Addr) (cl : List (Str × Addr)) (fp : List Addr), PD (X.blk s H scope (compEnvC scope cl C X.env) fp) elt te)
    (hs : ∀ x, foldedSetIterable iter X.env x = pure x := by intro _; rfl) : PD X (.ListComp elt [⟨tg, iter, ifs, 0⟩] scope pos) (tdLc ti tgd tt te (own.map (·.2))) := by
  -- the parts' readings do not hang on the block's entry
  have h0 := hg X.s_0 X.H_0 0 [] []
  have h1 := ht X.s_0 X.H_0 0 [] []
  have h2 := he X.s_0 X.H_0 0 [] []
  exact ⟨PE.imp (pe_lc hc hN hi.run ok (fun s H C cl fp => (hg s H C cl fp).run) (fun s H C cl fp => (ht s H C cl fp).run) (fun s H C cl fp => (he s H C cl fp).run) hs) fun σ H Q q => tdLc_ok hi.mono h0.mono h1.mono h2.mono q, tdLc_mono hi.mono h0.mono h1.mono h2.mono⟩
/-- name = [..] on one line -/
theorem pd_setLc (i : Nat) (own : List (Str × Nat)) {y : Str} {py spos : Pos} (hc : X.calm = true) (hN : X.N.Nodup) (hi : PID X tg iter ti) (ok : BlkOk X.N X.env.scope scope own) (hg : ∀ (s : Shared) (H : Hp) (C : Addr) (cl : List (Str × Addr)) (fp : List Addr), PGC (X.blk s H scope (compEnvC scope cl C X.env) fp) tg (own.map (·.2)) tgd)
    (ht : ∀ (s : Shared) (H : Hp) (C : Addr) (cl : List (Str × Addr)) (fp : List Addr), PBs (X.blk s H scope (compEnvC scope cl C X.env) fp) ifs tt) (he : ∀ (s : Shared) (H : Hp) (C : Addr) (cl : List (Str × Addr)) (fp : List Addr), PD (X.blk s H scope (compEnvC scope cl C X.env) fp) elt te)
    (hsw : swapsWith (.ListComp elt [⟨tg, iter, ifs, 0⟩] scope pos) (some (.Name y py)) spos.line X.env = pure true := by first | rfl | exact sw_true rfl rfl rfl (by decide +kernel)) (hy : X.N[i]? = some y := by rfl) (hyl : X.env.scope.names.lookup y = some .local := by rfl)
    (hs : ∀ x, foldedSetIterable iter X.env x = pure x := by intro _; rfl) : PDS X (.Assign [.Name y py] (.ListComp elt [⟨tg, iter, ifs, 0⟩] scope pos) spos) (tsSet i (tdLc ti tgd tt te (own.map (·.2)))) := by
  have h0 := hg X.s_0 X.H_0 0 [] []
  have h1 := ht X.s_0 X.H_0 0 [] []
  have h2 := he X.s_0 X.H_0 0 [] []
  have mo := tdLc_mono (vs := own.map (·.2)) hi.mono h0.mono h1.mono h2.mono
  refine ⟨PS.imp (ps_setLc hc hN hy hyl hsw hi.run ok (fun s H C cl fp => (hg s H C cl fp).run) (fun s H C cl fp => (ht s H C cl fp).run) (fun s H C cl fp => (he s H C cl fp).run) hs) fun D σ H ⟨Γ, g, q⟩ => tdLc_ok hi.mono h0.mono h1.mono h2.mono ⟨Γ, g, mo _ _ _ (fun r Γ' q v H' a rs => ?_) q⟩, fun D D' Γ h => mo _ _ _ fun r Γ' q => ⟨q.1, h.nx _ q.2⟩⟩
  exact q.2 _ H' (aft_set a rs q.1)
end
end DL
/-! DL11: methods that change a list of one's own; x[i] = v. -/
namespace DL
open PySem PySem.Spec PyProof.Rows L2
def oTy : O → String
  | .lst _ => "list"
  | .dI _ => "dict"
  | .dT _ => "dict"
theorem OwnOk.ty {K : PySem.W.Frag} {H : Hp} {p : Addr} {o : O} (h : OwnOk K H p o) : tyV K (oTy o) (.ref p) H := by
  cases o with
  | lst ds => obtain ⟨vs, e, _⟩ := h; exact .inl ⟨rfl, vs, .of e⟩
  | dI kvs => obtain ⟨vs, e, _⟩ := h; exact .inr (.inr (.inl ⟨rfl, .inl ⟨vs, e⟩⟩))
  | dT kvs => obtain ⟨vs, e, _⟩ := h; exact .inr (.inr (.inl ⟨rfl, .inr ⟨vs, e⟩⟩))
/-- the object of the slot i changed -/
theorem aft_upd {K : PySem.W.Frag} {H H1 H2 : Hp} {σ : Sl} {Γ Γ1 : G} {i : Nat} {p : Addr} {o o' : O} (g : RG K H σ Γ) (a : Aft K H Γ H1 σ Γ1) (e : Γ1[i]? = some (.ow p o)) (k : ∀ q u, q ≠ p → H1 q = some u → H2 q = some u) (im : Imm H1 H2) (ok : OwnOk K H2 p o') :
    Aft K H Γ H2 σ (Γ1.set i (.ow p o')) := by
  have hi : i < Γ1.length := by
    rcases Nat.lt_or_ge i Γ1.length with h | h
    · exact h
    · rw [List.getElem?_eq_none h] at e; cases e
  have at_ : ∀ (j : Nat) (s : SV), (Γ1.set i (.ow p o'))[j]? = some s → (j = i ∧ s = .ow p o') ∨ (j ≠ i ∧ Γ1[j]? = some s) := fun j s q => by
    by_cases z : j = i
    · subst z
      rw [List.getElem?_set_self hi] at q
      exact .inl ⟨rfl, (Option.some.inj q).symm⟩
    · rw [List.getElem?_set_ne (Ne.symm z)] at q
      exact .inr ⟨z, q⟩
  have ne : ∀ {j : Nat} {q : Addr} {o1 : O}, j ≠ i → Γ1[j]? = some (.ow q o1) → q ≠ p := fun {j q o1} n z z2 => by
    subst z2
    exact n (a.rg.one _ _ _ _ _ z e)
  have z1 := (a.rg.ow _ _ _ e).1
  refine ⟨fun c u h n => ?_, ⟨by rw [List.length_set]; exact a.rg.len, fun j d q => ?_, fun j q o1 z => ?_, fun j v q => ?_, fun j j' q o1 o2 w w' => ?_⟩, fun c ⟨j, o1, q⟩ => ?_⟩
  · have nc : c ≠ p := fun z => by
      subst z
      rcases a.sh c ⟨i, o, e⟩ with f | f
      · exact n f
      · rw [f] at h; cases h
    exact k c u nc (a.keep c u h n)
  · rcases at_ j _ q with ⟨_, z⟩ | ⟨_, z⟩
    · cases z
    · obtain ⟨v, h1, h2⟩ := a.rg.fz _ _ z
      exact ⟨v, h1, h2.imm im⟩
  · rcases at_ j _ z with ⟨rfl, y⟩ | ⟨n, y⟩
    · cases y
      exact ⟨z1, ok⟩
    · obtain ⟨h1, h2⟩ := a.rg.ow _ _ _ y
      exact ⟨h1, h2.keep (fun u => k _ u (ne n y)) im⟩
  · rcases at_ j _ q with ⟨_, z⟩ | ⟨_, z⟩
    · cases z
    · exact a.rg.raw _ _ z
  · rcases at_ j _ w with ⟨rfl, y⟩ | ⟨n, y⟩
    · rcases at_ j' _ w' with ⟨rfl, y'⟩ | ⟨n', y'⟩
      · rfl
      · cases y
        exact absurd rfl (ne n' y')
    · rcases at_ j' _ w' with ⟨rfl, y'⟩ | ⟨n', y'⟩
      · cases y'
        exact absurd rfl (ne n y)
      · exact a.rg.one _ _ _ _ _ y y'
  · rcases at_ j _ q with ⟨rfl, y⟩ | ⟨n, y⟩
    · cases y
      exact a.sh p ⟨_, o, e⟩
    · exact a.sh c ⟨j, o1, y⟩
/-! ### methods -/
abbrev GM := O → List D → (D → O → Prop) → Prop
structure MtD (X : Cx) (T id : String) (g : GM) : Prop where
  ok : ∃ r, MtR X id r ∧ ∀ (H : Hp) (p : Addr) (o : O) (ds : List D) (vs : List V) (Q : VK), OwnOk X.K H p o → Reps X.K H ds vs →
    g o ds (fun z o' => ∀ w H', (∀ q u, q ≠ p → H q = some u → H' q = some u) → Imm H H' → OwnOk X.K H' p o' → Rep X.K H' z w → Q w H') → r (.ref p) vs H Q
  mono : ∀ o ds (k k' : D → O → Prop), (∀ z o', k z o' → k' z o') → g o ds k → g o ds k'
def tdMt (i : Nat) (T : String) (g : GM) (t : TAD) : TD := fun Γ Q => match Γ[i]? with
  | some (.ow _ o0) => oTy o0 = T ∧ t Γ fun rs Γ1 => fzs rs fun ds => (match Γ1[i]? with
    | some (.ow p o) => g o ds fun z o' => Q (.fz z) (Γ1.set i (.ow p o'))
    | _ => False)
  | _ => False
section
variable {X : Cx} {T id : String} {name : Str} {g : GM} {x : Str} {e : Expr} {es : List Expr} {t : TAD} {p apos cpos : Pos}
theorem tdMt_mono (h : MtD X T id g) (i : Nat) (m : MonoA t) : Mono (tdMt i T g t) := fun Γ Q Q' hq q => by
  unfold tdMt at q ⊢
  split at q
  · refine ⟨q.1, m _ _ _ (fun rs Γ1 => fzs_mono fun ds q => ?_) q.2⟩
    split at q
    · exact h.mono _ _ _ _ (fun z o' => hq _ _) q
    · exact q
  · exact q
theorem pd_mt (i : Nat) (h : MtD X T id g) (pa : PlainAttrs T) (slot : Slot T name id) (hty : typeOf (.builtin id) = pure (.type "method_descriptor")) (ho : PE X (.Name x p) (tVar i)) (ha : PAD X (e :: es) t)
    (hbase : attributeBase (.Name x p) name X.env (eval (.Name x p) X.env) = eval (.Name x p) X.env := by rfl)
    (hfew : ((backTo cpos (starEach (e :: es) X.env)).all (fun x => !x.1) && (backToKw cpos (keywordEach [] X.env)).all (fun x => x.1.isSome) && decide ((e :: es).length + ([] : List Keyword).length + (if ([] : List Keyword).isEmpty then 0 else 1) < 30)) = true := by rfl)
    (hline : (apos.endLine == cpos.line) = true := by rfl) (hs : starEach (e :: es) X.env = (false, eval e X.env) :: starEach es X.env := by rfl) (hpl : (backTo cpos (starEach es X.env)).any (·.1) = false := by rfl) :
    PD X (.Call (.Attribute (.Name x p) name apos) (e :: es) [] cpos) (tdMt i T g t) := by
  obtain ⟨r, hm, hr⟩ := h.ok
  refine ⟨PE.imp (pe_bm pa slot hty hm ho ha.run hbase hfew hline hs hpl) fun σ H Q ⟨Γ, g0, q⟩ => ?_, tdMt_mono h i ha.mono⟩
  unfold tdMt at q
  split at q
  · rename_i p0 o0 e0
    obtain ⟨z1, z2⟩ := g0.ow _ _ _ e0
    refine ⟨.ref p0, z1, by rw [← q.1]; exact z2.ty, Γ, g0, ha.mono _ _ _ (fun rs Γ1 q vs H1 a1 rr => ?_) q.2⟩
    obtain ⟨ds, rp, q⟩ := fzs_ok rr q
    split at q
    · rename_i p1 o1 e1
      obtain ⟨w1, w2⟩ := a1.rg.ow _ _ _ e1
      rw [z1] at w1
      cases w1
      refine hr H1 p0 o1 ds vs Q w2 rp (h.mono _ _ _ _ (fun z o' q => ?_) q)
      intro w H2 k im ok rz
      exact q w H2 (aft_upd g0 a1 e1 k im ok) rz
    · exact q.elim
  · exact q.elim
theorem pd_mt0 (i : Nat) (h : MtD X T id g) (pa : PlainAttrs T) (slot : Slot T name id) (hty : typeOf (.builtin id) = pure (.type "method_descriptor")) (ho : PE X (.Name x p) (tVar i))
    (hbase : attributeBase (.Name x p) name X.env (eval (.Name x p) X.env) = eval (.Name x p) X.env := by rfl) (hline : (apos.endLine == cpos.line) = true := by rfl) :
    PD X (.Call (.Attribute (.Name x p) name apos) [] [] cpos) (tdMt i T g taNil) := by
  obtain ⟨r, hm, hr⟩ := h.ok
  refine ⟨PE.imp (pe_bm0 pa slot hty hm ho hbase hline) fun σ H Q ⟨Γ, g0, q⟩ => ?_, tdMt_mono h i fun Γ Q Q' h q => h _ _ q⟩
  unfold tdMt at q
  split at q
  · rename_i p0 o0 e0
    obtain ⟨z1, z2⟩ := g0.ow _ _ _ e0
    refine ⟨.ref p0, z1, by rw [← q.1]; exact z2.ty, ?_⟩
    have q := q.2
    simp only [taNil, fzs, e0] at q
    refine hr H p0 o0 [] [] Q z2 rfl (h.mono _ _ _ _ (fun z o' q => ?_) q)
    intro w H2 k im ok rz
    exact q w H2 (aft_upd g0 (Aft.refl g0) e0 k im ok) rz
  · exact q.elim
theorem upd_k {H : Hp} {p : Addr} {o : HO} : ∀ q u, q ≠ p → H q = some u → upd H p o q = some u := keep_upd
def gApp : GM := fun o ds k => match o, ds with
  | .lst xs, [d] => xs.length < sizeLine ∧ k .none (.lst (xs ++ [d]))
  | _, _ => False
theorem mt_app : MtD X "list" "list.append" gApp := by
  refine ⟨⟨_, mt_append, fun H p o ds vs Q ok rp q => ?_⟩, fun o ds k k' h q => ?_⟩
  · unfold gApp at q
    split at q
    · obtain ⟨ws, e, rw'⟩ := ok
      obtain ⟨v, w, rfl, r1, r2⟩ := rp
      cases (show w = [] from r2)
      have im : Imm H (upd H p (.lst (ws ++ [v]))) := Imm.upd (.inr (by rw [e]; trivial))
      exact ⟨p, ws, v, rfl, rfl, e, by rw [rw'.len]; exact q.1, q.2 .non _ upd_k im ⟨_, upd_same, (rw'.append (Reps.one r1)).imm im⟩ rfl⟩
    · exact q.elim
  · unfold gApp at q ⊢
    split at q
    · exact ⟨q.1, h _ _ q.2⟩
    · exact q
theorem ixN_nn {n : Nat} {i : Int} (h0 : 0 ≤ i) (h1 : i < n) : ixN n i = some i.toNat := by
  unfold ixN
  rw [if_pos h0, if_pos h1]
/-- pop(i), i from 0 on -/
def gPopAt : GM := fun o ds k => match o, ds with
  | .lst xs, [.int i] => (0 ≤ i ∧ i < 2 ^ 63) ∧ (match xs[i.toNat]? with
    | some d => k d (.lst (xs.eraseIdx i.toNat))
    | none => False)
  | _, _ => False
theorem mt_popi : MtD X "list" "list.pop" gPopAt := by
  refine ⟨⟨_, mt_popAt, fun H p o ds vs Q ok rp q => ?_⟩, fun o ds k k' h q => ?_⟩
  · unfold gPopAt at q
    split at q
    · rename_i xs i
      obtain ⟨ws, e, rw'⟩ := ok
      obtain ⟨v, w, rfl, r1, r2⟩ := rp
      cases (show w = [] from r2)
      obtain ⟨⟨h0, h1⟩, q⟩ := q
      split at q
      · rename_i d ed
        obtain ⟨u, eu, ru⟩ := rw'.get ed
        have hlt : i.toNat < ws.length := (List.getElem?_eq_some_iff.mp eu).1
        have hs : seqIndex? i ws.length = some i.toNat := (ixN_seq (ixN_nn h0 (by omega))).1
        have im : Imm H (upd H p (.lst (ws.eraseIdx i.toNat))) := Imm.upd (.inr (by rw [e]; trivial))
        exact ⟨p, ws, i, i.toNat, u, rfl, by rw [show v = V.int i from r1], e, by omega, h1, hs, eu, q u _ upd_k im ⟨_, upd_same, (rw'.eraseIdx _).imm im⟩ (ru.imm im)⟩
      · exact q.elim
    · exact q.elim
  · unfold gPopAt at q ⊢
    split at q
    · refine ⟨q.1, ?_⟩
      have q := q.2
      split at q
      · exact h _ _ q
      · exact q
    · exact q
def gClr : GM := fun o ds k => match o, ds with
  | .lst _, [] => k .none (.lst [])
  | _, _ => False
theorem mt_clr : MtD X "list" "list.clear" gClr := by
  refine ⟨⟨_, mt_clear, fun H p o ds vs Q ok rp q => ?_⟩, fun o ds k k' h q => ?_⟩
  · unfold gClr at q
    split at q
    · obtain ⟨ws, e, rw'⟩ := ok
      cases (show vs = [] from rp)
      have im : Imm H (upd H p (.lst [])) := Imm.upd (.inr (by rw [e]; trivial))
      exact ⟨p, ws, rfl, rfl, e, q .non _ upd_k im ⟨_, upd_same, rfl⟩ rfl⟩
    · exact q.elim
  · unfold gClr at q ⊢
    split at q
    · exact h _ _ q
    · exact q

/-! ### x[i] = v -/
abbrev GP := O → D → D → (O → Prop) → Prop
def tsPut (j : Nat) (te ti : TD) (g : GP) : TSD := fun E Γ => te Γ fun r Γ1 => match r, Γ1[j]? with
  | .fz d, some (.ow _ _) => ti Γ1 fun r2 Γ2 => dat Γ2 r2 fun k => (match Γ2[j]? with
    | some (.ow p o) => g o k d fun o' => E.nx (Γ2.set j (.ow p o'))
    | _ => False)
  | _, _ => False
/-- where index i lies, told so that it reckons on lists whose tail is not known -/
def posD (ds : List D) (i : Int) : Option Nat := match i with
  | .ofNat n => (match ds[n]? with
    | some _ => some n
    | none => none)
  | .negSucc n => if n < ds.length then some (ds.length - 1 - n) else none
theorem posD_ok {ds : List D} {i : Int} {n : Nat} (h : posD ds i = some n) : ixN ds.length i = some n := by
  cases i with
  | ofNat m =>
    change (match ds[m]? with | some _ => some m | none => none) = some n at h
    split at h
    · rename_i d e
      have hm : m = n := Option.some.inj h
      subst hm
      have := (List.getElem?_eq_some_iff.mp e).1
      exact ixN_nn (i := Int.ofNat m) (Int.natCast_nonneg m) (Int.ofNat_lt.mpr this)
    · cases h
  | negSucc m =>
    change (if m < ds.length then some (ds.length - 1 - m) else none) = some n at h
    by_cases hm : m < ds.length
    · rw [if_pos hm] at h
      have hn : ds.length - 1 - m = n := Option.some.inj h
      have n0 : ¬ (0 : Int) ≤ Int.negSucc m := by omega
      have h2 : -(ds.length : Int) ≤ Int.negSucc m := by omega
      have h3 : (Int.negSucc m + (ds.length : Int)).toNat = n := by omega
      unfold ixN
      rw [if_neg n0, if_pos h2, h3]
    · rw [if_neg hm] at h
      cases h
def gPutL : GP := fun o k d c => match o, k with
  | .lst xs, .int i => (match posD xs i with
    | some n => c (.lst (xs.set n d))
    | none => False)
  | _, _ => False
theorem gPutL_mono {o : O} {a b : D} {k k' : O → Prop} (h : ∀ o, k o → k' o) (q : gPutL o a b k) : gPutL o a b k' := by
  unfold gPutL at q ⊢
  split at q
  · split at q
    · exact h _ q
    · exact q
  · exact q
variable {idx value : Expr} {te ti : TD} {spos tpos : Pos}
theorem pd_putL (j : Nat) (ho : PE X (.Name x p) (tVar j)) (hi : PD X idx ti) (hv : PD X value te)
    (hA : ∀ v, assign (.Subscript (.Name x p) idx tpos) X.env v = (do
      let ov ← holding [v] (eval (.Name x p) X.env)
      let iv ← holding [v, ov] (eval idx X.env)
      standAt tpos; holding [v, ov, iv] (setItem ov iv v); release [v, ov, iv] []) := by intro _; rfl)
    (hs1 : swapsWithSole [.Subscript (.Name x p) idx tpos] value spos.line X.env = pure false := by rfl) (hw1 : swappedStores [.Subscript (.Name x p) idx tpos] value X.env = pure none := by rfl)
    (hm1 : (assignEach [.Subscript (.Name x p) idx tpos] X.env).map (·.2) = [assign (.Subscript (.Name x p) idx tpos) X.env] := by rfl) :
    PDS X (.Assign [.Subscript (.Name x p) idx tpos] value spos) (tsPut j te ti gPutL) := by
  refine ⟨PS.imp (ps_asg hv.run (pg_sub ho hi.run set_list hA) hs1 hw1 hm1) fun D σ H ⟨Γ, g0, q⟩ => ⟨Γ, g0, hv.mono _ _ _ (fun r Γ1 q v H1 a1 r1 => ?_) q⟩, fun D D' Γ h => hv.mono _ _ _ fun r Γ1 q => ?_⟩
  · split at q
    · rename_i d p1 o1 e1
      obtain ⟨z1, _⟩ := a1.rg.ow _ _ _ e1
      refine ⟨_, z1, Γ1, a1.rg, hi.mono _ _ _ (fun r2 Γ2 q u H2 a2 r2' => ?_) q⟩
      have a12 := a1.trans g0 a2
      have rd : Rep X.K H2 d v := Rep.imm r1 (a2.imm a1.rg)
      obtain ⟨k, nk, q⟩ := dat_ok a2.rg r2' q
      split at q
      · rename_i p2 o2 e2
        obtain ⟨w1, w2⟩ := a2.rg.ow _ _ _ e2
        rw [z1] at w1
        cases w1
        unfold gPutL at q
        split at q
        · split at q
          · rename_i n en
            obtain ⟨ws, ew, rw'⟩ := w2
            have im : Imm H2 (upd H2 p1 (.lst (ws.set n v))) := Imm.upd (.inr (by rw [ew]; trivial))
            exact ⟨p1, ws, _, n, rfl, nk.int, ew, by rw [rw'.len]; exact posD_ok en, q σ _ (aft_upd g0 a12 e2 upd_k im ⟨_, upd_same, (rw'.set rd n).imm im⟩)⟩
          · exact q.elim
        · exact q.elim
      · exact q.elim
    · exact q.elim
  · split at q
    · refine hi.mono _ _ _ (fun r2 Γ2 => dat_mono fun k q => ?_) q
      split at q
      · exact gPutL_mono (fun o' => h.nx _) q
      · exact q
    · exact q
end
end DL
/-! DL12: set comprehensions of ints; sorted of such. -/
namespace DL
open PySem PySem.Spec PyProof.Rows L2
section
variable {X : Cx}
/-- {elt for target in iter if ..}, elt an int: C the new set -/
def tScI (w : World) (wi : TI) (g : TG) (tt : TT) (te : TE) (vs : List Nat) : TE := fun σ H Q => wi σ H fun J H1 => ∀ C, H1 C = none → ∃ W : Nat → Nat → Hp → Prop,
  (∃ m, W 0 m (upd H1 C (SetO w C (fun _ => false) 0))) ∧ ∀ i m H, W i m H → (J.stop i H ∧ Q (.ref C) H) ∨ (J.go i H ∧ ∃ Nx : Hp → Prop, (∀ H', Nx H' → ∃ m', m' < m ∧ W (i + 1) m' H') ∧
    ∀ x H', J.yld i H x H' → g x (wipe σ vs) H' fun σ2 H2 => wipe σ2 vs = wipe σ vs ∧ tt σ2 H2 fun b H3 => if b = true then te σ2 H3 fun y H4 => ∃ (k : Int) (S : Int → Bool) (n : Nat), y = .int k ∧ H4 C = some (SetO w C S n) ∧ n + 1 < scanBound ∧
      Nx (upd H4 C (SetO w C (fun j => S j || decide (j = k)) (if S k = true then n else n + 1))) else Nx H3)
theorem pe_scI {elt tg iter : Expr} {ifs : List Expr} {scope : Scope} {own : List (Str × Nat)} {pos : Pos} {wi : TI} {g : TG} {tt : TT} {te : TE} (hc : X.calm = true) (hN : X.N.Nodup) (hi : PI X tg iter wi) (ok : BlkOk X.N X.env.scope scope own)
    (hg : ∀ (s : Shared) (H : Hp) (C : Addr) (cl : List (Str × Addr)) (fp : List Addr), PG (X.blk s H scope (compEnvC scope cl C X.env) fp) tg g)
    (ht : ∀ (s : Shared) (H : Hp) (C : Addr) (cl : List (Str × Addr)) (fp : List Addr), PTs (X.blk s H scope (compEnvC scope cl C X.env) fp) ifs tt)
    (he : ∀ (s : Shared) (H : Hp) (C : Addr) (cl : List (Str × Addr)) (fp : List Addr), PE (X.blk s H scope (compEnvC scope cl C X.env) fp) elt te)
    (hs : ∀ x, foldedSetIterable iter X.env x = pure x := by intro _; rfl) : PE X (.SetComp elt [⟨tg, iter, ifs, 0⟩] scope pos) (tScI X.w wi g tt te (own.map (·.2))) := by
  refine ⟨fun pins s σ H Q I h => ?_⟩
  rw [PpSet.eval_SetComp]
  have fr : ∀ y ∈ scope.names, y.2 = .free → ∃ c, X.env.cells.lookup y.1 = some c := by
    intro y hy e
    rcases ok.free y hy e with k | k
    · exact I.ok.has _ (.inl k)
    · exact I.ok.has _ (.inr k)
  refine wpAny_comprehension_free (use := none) rfl hs (closure_ok fr) ok.kind (fun y hy e => ?_) ?_
  · rw [ok.uniq y hy, e]
  refine thn (hi.run pins s σ H _ I h) fun xv s1 hx => thn hx fun itv s2 h2 => ?_
  obtain ⟨it, fp, tn, J, H2, e, I2, T, st2, f2, q⟩ := h2
  subst e
  refine PpSet.newSet_ok (newEnv_comp ?_)
  generalize hC : s2.heap.objs.size = C
  have Cn : H2 C = none := I2.hok.fresh (Nat.le_of_eq hC)
  obtain ⟨W, ⟨m0, w0⟩, turn⟩ := q C Cn
  let hS : Heap := s2.heap.push { cls := .type "set", dict := none, data := .set #[] 0 (.fresh 0 0 (!X.w.params.followText "set-order")) }
  let s3 : Shared := { s2 with heap := hS }
  let H3 : Hp := upd H2 C (SetO X.w C (fun _ => false) 0)
  have I3 : Inv X pins σ H3 s3 := by
    refine I2.laid (t' := s2.toks) (fun b o z => Heap.get?_push_of_some _ z) (Nat.le_of_eq hC) ?_
    rw [← hC]
    exact setO_new (setR_fresh X.w)
  have ltf : ∀ b ∈ fp, b < s2.heap.objs.size := by
    intro b hb
    obtain ⟨o, z, _⟩ := T.obj _ _ st2 b hb
    exact Heap.lt_size z
  have nC : ∀ b ∈ fp, b ≠ C := fun b hb => by rw [← hC]; exact Nat.ne_of_lt (ltf b hb)
  have f3 : ∀ b ∈ fp, FpOk X pins H3 b ∧ b < s3.heap.objs.size := by
    intro b hb
    refine ⟨⟨?_, (f2 b hb).2⟩, ?_⟩
    · show upd H2 C _ b = none
      rw [upd_ne (nC b hb)]
      exact (f2 b hb).1
    · show b < (s2.heap.push _).objs.size
      rw [Heap.size_push]
      exact Nat.lt_succ_of_lt (ltf b hb)
  have st3 : tn 0 s3.heap := T.keep _ _ _ st2 fun b _ o z => Heap.get?_push_of_some _ z
  have I4 := block_start I3 ok hN f3
  let cl := cellsFrom (s3.heap.objs.size + 1) scope.names (cloFrom X.env.cells scope.names [])
  let ce := compEnvC scope cl s3.heap.objs.size X.env
  let B := X.blk s3 H3 scope ce fp
  have pg : PG B tg g := hg s3 H3 s3.heap.objs.size cl fp
  have pt : PTs B ifs tt := ht s3 H3 s3.heap.objs.size cl fp
  have pe : PE B elt te := he s3 H3 s3.heap.objs.size cl fp
  let s4 : Shared := { s3 with heap := pushCells (s3.heap.push { cls := .type "dict", data := .dict #[] }) scope.names }
  have st4 : tn 0 s4.heap := T.keep _ _ _ st3 fun b _ o z => pushCells_keeps _ _ _ _ (Heap.get?_push_of_some _ z)
  have stat : ∀ {σ' : L2.St} {H' : Hp} {s' : Shared}, Inv B [] σ' H' s' → (∀ b ∈ fp, H' b = none) → ∀ b ∈ fp, FpOk B [] H' b := by
    intro σ' H' s' I' n b hb
    refine ⟨n b hb, (I'.ok.exf b hb).1, I'.ok.exfs b hb, .inl hb, fun x c z => (I'.ok.exf b hb).2 x c z, fun p hp => ?_⟩
    exact absurd (show p ∈ ([] : List (Addr × Obj)) ++ [] from hp) (by simp)
  show codeAny _ _ (.compStart (.SetComp elt [⟨tg, iter, ifs, 0⟩] scope pos) 0 (.ref it) (.ref C) ce) (compPost (model X.prog X.w) X.A X.xe none (EP X pins σ Q) (.ref C) s3.heap.objs.size) s4
  have loop : codeAny (model X.prog X.w) X.A (.compLoop (.SetComp elt [⟨tg, iter, ifs, 0⟩] scope pos) 0 (.ref it) (.ref C) ce) (compPost (model X.prog X.w) X.A X.xe none (EP X pins σ Q) (.ref C) s3.heap.objs.size) s4 := by
    refine PpSet.compLoopS_any (fun n s' => ∃ i H', Inv B [] (wipe σ (own.map (·.2))) H' s' ∧ tn i s'.heap ∧ (∀ b ∈ fp, H' b = none) ∧ W i n H') ?_ m0 ⟨0, H3, I4, st4, fun b hb => (f3 b hb).1.1, w0⟩
    rintro n s5 ⟨i, H5, I5, st5, n5, w5⟩
    rcases turn i n H5 w5 with ⟨stop, qq⟩ | ⟨go, Nx, hNx, step⟩
    · refine thnF (T.done B rfl rfl rfl hc i [] s5 _ H5 (fun _ _ => False) I5 (stat I5 n5) st5 stop) fun r s6 ⟨hr, I6⟩ => ?_
      subst hr
      have I7 : Inv X pins σ H5 s6 := I3.call' (ch := fp) I6.os I6.base I6.hok I6.bare fun b hb => by
        have z := (f3 b hb).1.2
        exact ⟨z.2.2.1, z.1, z.2.2.2.1, z.2.2.2.2⟩
      have nL : H5 s3.heap.objs.size = none := I6.free
      obtain ⟨m, hn, _⟩ := I6.loc
      have f := I3.fpOk (Nat.le_refl s3.heap.objs.size) nL
      refine ⟨m, hn, fun h'' sb => ?_⟩
      refine ⟨.ref C, H5, I7.turned (t' := s6.toks) (fun b o hb z => ?_) f.1 f.2.1 f.2.2.2.1 f.2.2.2.2.1 f.2.2.2.2.2, rfl, qq⟩
      exact (sb.2 b hb).trans z
    · refine thnF (T.item B rfl rfl rfl hc i [] s5 _ H5 (fun _ _ => False) I5 (stat I5 n5) st5 go) fun r s6 ⟨u, hr, h6⟩ => ?_
      subst hr
      refine thnF h6 fun _ s7 ⟨x, H7, I7, r7, y7, st7, n7⟩ => ?_
      have P7 := I7.pinned (stat I7 n7) (T.obj _ _ st7)
      refine thnF (pg.run _ s7 _ H7 x u _ P7 r7 (step x H7 y7)) fun _ s8 ⟨σ8, H8, I8, hw8, q8⟩ => ?_
      refine thnF (pt.run _ s8 σ8 H8 _ I8 q8) fun b s9 ⟨H9, I9, q9⟩ => ?_
      have fin : ∀ {s' : Shared} {H' : Hp}, Inv B ([] ++ pinsAt fp s7.heap) σ8 H' s' → Nx H' → ∃ m, m < n ∧ ∃ i H', Inv B [] (wipe σ (own.map (·.2))) H' s' ∧ tn i s'.heap ∧ (∀ b ∈ fp, H' b = none) ∧ W i m H' := by
        intro s' H' I' nx
        obtain ⟨m', hm, w'⟩ := hNx H' nx
        have pin : ∀ b ∈ fp, ∀ o, s7.heap.get? b = some o → s'.heap.get? b = some o ∧ H' b = none := by
          intro b hb o z
          have y := I'.pin (b, o) (List.mem_append_right _ (List.mem_append_right _ (mem_pinsAt hb z)))
          exact ⟨y.1, y.2.1⟩
        refine ⟨m', hm, i + 1, H', (I'.unpinned (pins := [])).weak ?_ (fun j v z => ?_), T.keep _ _ _ st7 fun b hb o z => (pin b hb o z).1, fun b hb => ?_, w'⟩
        · rw [← hw8, wipe_length]
        · rw [← hw8] at z
          exact (wipe_some z).1
        · obtain ⟨o, z, _⟩ := T.obj _ _ st7 b hb
          exact (pin b hb o z).2
      cases b with
      | false =>
        simp only [Bool.false_eq_true, if_false] at q9 ⊢
        exact fin I9 q9
      | true =>
        simp only [if_true] at q9 ⊢
        refine thnF (pe.run _ s9 σ8 H9 _ I9 q9) fun z s10 ⟨yv, H10, I10, r10, k, S0, n0, ey, hD10, hz10, nx⟩ => ?_
        subst ey
        refine thnF (mt_sadd (X := B.wish fun _ _ => False) _ s10 σ8 H10 (.ref C) [.int k] (.ref C) [z] (fun _ H' => Nx H') (I10.wish _) rfl (.cons r10 .nil) ⟨C, k, S0, n0, rfl, rfl, hD10, hz10, nx⟩) fun _ s11 ⟨_, H11, I11, _, n11⟩ => ?_
        exact fin I11.unwish n11
  exact PpSet.codeAny_compStart_set loop (T.self X.A 0 _ _ _ st4 loop)
end
end DL
/-! DL13: sets of ints over data. -/
namespace DL
open PySem PySem.Spec PyProof.Rows L2
def addU (xs : List Int) (k : Int) : List Int := if k ∈ xs then xs else xs ++ [k]
theorem mem_addU {xs : List Int} {j k : Int} : j ∈ addU xs k ↔ j ∈ xs ∨ j = k := by
  unfold addU
  split
  · rename_i h
    constructor
    · exact .inl
    · rintro (z | rfl)
      · exact z
      · exact h
  · simp
abbrev setOf (w : World) (p : Addr) (xs : List Int) : HO := SetO w p (fun k => decide (k ∈ xs)) xs.length
theorem setOf_add {w : World} {p : Addr} {xs : List Int} {k : Int} : SetO w p (fun j => decide (j ∈ xs) || decide (j = k)) (if decide (k ∈ xs) = true then xs.length else xs.length + 1) = setOf w p (addU xs k) := by
  have e1 : (fun j => decide (j ∈ xs) || decide (j = k)) = fun j => decide (j ∈ addU xs k) := by
    funext j
    rw [Bool.eq_iff_iff]
    simp [mem_addU]
  have e2 : (if decide (k ∈ xs) = true then xs.length else xs.length + 1) = (addU xs k).length := by
    unfold addU
    by_cases h : k ∈ xs
    · simp [h]
    · simp [h]
  show SetO w p _ _ = SetO w p _ _
  rw [e1, e2]
abbrev TSt := G → (List Int → G → Prop) → Prop
def liftSt (K : PySem.W.Frag) (w : World) (t : TSt) : TE := fun σ H Q => ∃ Γ, RG K H σ Γ ∧ t Γ fun xs Γ' => ∀ p H', Aft K H Γ H' σ Γ' → H' p = some (setOf w p xs) → ¬ own Γ' p → (own Γ p ∨ H p = none) → Q (.ref p) H'
structure PSt (X : Cx) (e : Expr) (t : TSt) : Prop where
  run : PE X e (liftSt X.K X.w t)
  mono : ∀ Γ (Q Q' : List Int → G → Prop), (∀ xs Γ', Q xs Γ' → Q' xs Γ') → t Γ Q → t Γ Q'
structure ScR (ds : List D) (lk : Lk) (Γ1 : G) (tg : TGD) (tt : TB) (te : TD) (vs : List Nat) (Q : List Int → G → Prop) : Prop where
  le : ds.length ≤ 1000
  out : ∃ inv : List D → List D → List Int → G → Prop, inv [] ds [] (wipeD Γ1 vs) ∧
    (∀ done rest acc Γ, done ++ rest = ds → inv done rest acc Γ → lkOk lk Γ) ∧
    (∀ done d rest acc Γ, done ++ d :: rest = ds → inv done (d :: rest) acc Γ → tg d Γ fun Γ2 => tt Γ2 fun b Γ3 => Br b (te Γ3 fun r Γ4 => ∃ k, r = .fz (.int k) ∧ inv (done ++ [d]) rest (addU acc k) (wipeD Γ4 vs)) (inv (done ++ [d]) rest acc (wipeD Γ3 vs))) ∧
    ∀ acc Γ, inv ds [] acc Γ → Q acc (unwipe Γ Γ1 vs)
def tstSc (ti : TID) (tg : TGD) (tt : TB) (te : TD) (vs : List Nat) : TSt := fun Γ Q => ti Γ fun ds lk Γ1 => MonoC tg tt te → ScR ds lk Γ1 tg tt te vs Q
theorem addU_len {xs : List Int} {k : Int} : (addU xs k).length ≤ xs.length + 1 := by
  unfold addU
  split
  · exact Nat.le_succ _
  · simp
theorem scan_ok {n : Nat} (h : n ≤ 1000) : n + 1 < scanBound := Nat.lt_of_le_of_lt (Nat.add_le_add_right h 1) (by decide)
theorem tstSc_ok {K : PySem.W.Frag} {w : World} {ti : TID} {tgd : TGD} {tt : TB} {te : TD} {vs : List Nat} (mi : MonoI ti) (mg : ∀ d Γ (Q Q' : G → Prop), (∀ Γ', Q Γ' → Q' Γ') → tgd d Γ Q → tgd d Γ Q') (mt : MonoB tt) (me : Mono te)
    {σ : Sl} {H : Hp} {Q : VK} (q : liftSt K w (tstSc ti tgd tt te vs) σ H Q) :
    tScI w (liftI K ti) (fun v σ H Q => ∃ Γ d, RG K H σ Γ ∧ Rep K H d v ∧ tgd d Γ fun Γ' => ∀ σ', Aft K H Γ H σ' Γ' → wipe σ' vs = wipe σ vs → Q σ' H) (liftB K tt) (lift K te) vs σ H Q := by
  obtain ⟨Γ, g0, q⟩ := q
  refine ⟨Γ, g0, mi _ _ _ (fun ds lk Γ1 q J H1 St a1 src stb l hl => ?_) q⟩
  have h1000 := (q ⟨mg, mt, me⟩).le
  obtain ⟨inv, i0, il, turn, last⟩ := (q ⟨mg, mt, me⟩).out
  have g1 := a1.rg
  have gw := rg_wipe (vs := vs) g1
  have b0 : Aft K H1 (wipeD Γ1 vs) (upd H1 l (setOf w l [])) (wipe σ vs) (wipeD Γ1 vs) := Aft.same gw (same_upd hl)
  have e0 : SetO w l (fun _ => false) 0 = setOf w l [] := by
    show SetO w l _ _ = SetO w l _ _
    congr 1
  refine ⟨fun i m H' => ∃ done rest acc Γ', done ++ rest = ds ∧ i = done.length ∧ m = rest.length ∧ acc.length ≤ done.length ∧ Aft K H1 (wipeD Γ1 vs) H' (wipe σ vs) Γ' ∧ H' l = some (setOf w l acc) ∧ ¬ own Γ' l ∧ inv done rest acc Γ',
    ⟨ds.length, [], ds, [], wipeD Γ1 vs, rfl, rfl, rfl, Nat.le_refl _, by rw [e0]; exact b0, by rw [upd_same, e0], fun z => gw.there z hl, i0⟩, ?_⟩
  rintro i m H2 ⟨done, rest, acc, Γ2, e, rfl, rfl, hac, a2, el, nl, i2⟩
  have st2 : St H2 := stb H2 _ Γ2 (a2.imm gw) a2.rg (il done rest acc Γ2 e i2)
  cases rest with
  | nil =>
    rw [List.append_nil] at e
    subst e
    obtain ⟨a3, ow3⟩ := aft_unwipe g1 a2
    refine .inl ⟨src.stop H2 st2, last acc Γ2 i2 l H2 (a1.trans g0 a3) el (fun z => ?_) (a1.fresh (.inr hl))⟩
    rcases ow3 l z with z | z
    · exact nl z
    · exact g1.there z hl
  | cons d rest =>
    have ed : ds[done.length]? = some d := by
      rw [← e, List.getElem?_append_right (Nat.le_refl _), Nat.sub_self]
      rfl
    have hlt : done.length < ds.length := by rw [← e, List.length_append, List.length_cons]; omega
    refine .inr ⟨src.go _ H2 st2 hlt, fun H' => ∃ acc' Γ', acc'.length ≤ (done ++ [d]).length ∧ Aft K H1 (wipeD Γ1 vs) H' (wipe σ vs) Γ' ∧ H' l = some (setOf w l acc') ∧ ¬ own Γ' l ∧ inv (done ++ [d]) rest acc' Γ', fun H' ⟨acc', Γ', z1, z2, z3, z5, z6⟩ => ⟨rest.length, by simp, done ++ [d], rest, acc', Γ', by rw [← e]; simp, by simp, rfl, z1, z2, z3, z5, z6⟩, fun x H3 y => ?_⟩
    obtain ⟨sm, rx⟩ := src.yld _ d H2 x H3 st2 ed y
    have a3 := Aft.same a2.rg sm
    have a13 := a2.trans gw a3
    have keepl : ∀ {H H' : Hp} {σ' σ'' : Sl} {Γ Γ' : G} {us : HO}, RG K H σ'' Γ → Aft K H Γ H' σ' Γ' → H l = some us → ¬ own Γ l → H' l = some us ∧ ¬ own Γ' l := fun {H H' σ' σ'' Γ Γ' us} g a e n => by
      refine ⟨a.keep _ _ e n, fun z => ?_⟩
      rcases a.sh l z with z | z
      · exact n z
      · rw [e] at z; cases z
    refine ⟨Γ2, d, a3.rg, rx, mg _ _ _ _ (fun Γ4 q σ4 a4 hw => ?_) (turn done d rest acc Γ2 e i2)⟩
    refine ⟨hw.trans (wipe_wipe σ vs), Γ4, a4.rg, mt _ _ _ (fun b Γ5 q H5 a5 => ?_) q⟩
    obtain ⟨l3, n3⟩ := keepl a2.rg a3 el nl
    obtain ⟨l4, n4⟩ := keepl a3.rg a4 l3 n3
    obtain ⟨l5, n5⟩ := keepl a4.rg a5 l4 n4
    have wiped : ∀ {H' : Hp} {Γ' : G}, Aft K H1 (wipeD Γ1 vs) H' σ4 Γ' → Aft K H1 (wipeD Γ1 vs) H' (wipe σ vs) (wipeD Γ' vs) := fun {H' Γ'} a => by
      refine ⟨a.keep, ?_, fun c z => a.sh c (own_wipe z)⟩
      have := rg_wipe (vs := vs) a.rg
      rw [hw, wipe_wipe] at this
      exact this
    have a15 := (a13.trans gw a4).trans gw a5
    rw [br_iff] at q
    split at q
    · rename_i eb
      rw [if_pos eb]
      refine ⟨Γ5, a5.rg, me _ _ _ (fun r Γ6 q v H6 a6 r6 => ?_) q⟩
      obtain ⟨k, rfl, i6⟩ := q
      obtain ⟨l6, n6⟩ := keepl a5.rg a6 l5 n5
      have mu : Mut (H6 l) := by rw [l6]; trivial
      have im7 : Imm H6 (upd H6 l (setOf w l (addU acc k))) := Imm.upd (.inr mu)
      have hlen : acc.length < ds.length := Nat.lt_of_le_of_lt hac hlt
      refine ⟨k, _, _, r6, l6, scan_ok (by omega), ?_⟩
      rw [setOf_add]
      refine ⟨addU acc k, wipeD Γ6 vs, ?_, ?_, upd_same, fun z => n6 (own_wipe z), i6⟩
      · rw [List.length_append]
        exact Nat.le_trans addU_len (Nat.add_le_add_right hac 1)
      · have a16 := wiped (a15.trans gw a6)
        refine ⟨fun c u z1 z2 => ?_, ?_, a16.sh⟩
        · have nc : c ≠ l := fun z => by rw [z, hl] at z1; cases z1
          rw [upd_ne nc]
          exact a16.keep c u z1 z2
        · have g6 := a16.rg
          refine ⟨g6.len, fun j dd z => ?_, fun j p o z => ?_, g6.raw, g6.one⟩
          · obtain ⟨w, w1, w2⟩ := g6.fz _ _ z
            exact ⟨w, w1, w2.imm im7⟩
          · obtain ⟨w1, w2⟩ := g6.ow _ _ _ z
            exact ⟨w1, w2.keep (fun u => keep_upd p u fun y => n6 (by rw [← y]; exact own_wipe ⟨j, o, z⟩)) im7⟩
    · rename_i eb
      rw [if_neg eb]
      refine ⟨acc, wipeD Γ5 vs, ?_, wiped a15, l5, fun z => n5 (own_wipe z), q⟩
      rw [List.length_append]
      exact Nat.le_succ_of_le hac
section
variable {X : Cx} {tg iter elt : Expr} {pos : Pos} {ti : TID} {tgd : TGD} {tt : TB} {te : TD} {ifs : List Expr} {scope : Scope}
theorem pst_sc (own : List (Str × Nat)) (hc : X.calm = true) (hN : X.N.Nodup) (hi : PID X tg iter ti) (ok : BlkOk X.N X.env.scope scope own) (hg : ∀ (s : Shared) (H : Hp) (C : Addr) (cl : List (Str × Addr)) (fp : List Addr), PGC (X.blk s H scope (compEnvC scope cl C X.env) fp) tg (own.map (·.2)) tgd)
    (ht : ∀ (s : Shared) (H : Hp) (C : Addr) (cl : List (Str × Addr)) (fp : List Addr), PBs (X.blk s H scope (compEnvC scope cl C X.env) fp) ifs tt) (he : ∀ (s : Shared) (H : Hp) (C : Addr) (cl : List (Str × Addr)) (fp : List Addr), PD (X.blk s H scope (compEnvC scope cl C X.env) fp) elt te)
    (hs : ∀ x, foldedSetIterable iter X.env x = pure x := by intro _; rfl) : PSt X (.SetComp elt [⟨tg, iter, ifs, 0⟩] scope pos) (tstSc ti tgd tt te (own.map (·.2))) := by
  have h0 := hg X.s_0 X.H_0 0 [] []
  have h1 := ht X.s_0 X.H_0 0 [] []
  have h2 := he X.s_0 X.H_0 0 [] []
  refine ⟨PE.imp (pe_scI hc hN hi.run ok (fun s H C cl fp => (hg s H C cl fp).run) (fun s H C cl fp => (ht s H C cl fp).run) (fun s H C cl fp => (he s H C cl fp).run) hs) fun σ H Q q => tstSc_ok hi.mono h0.mono h1.mono h2.mono q, ?_⟩
  exact fun Γ Q Q' hq => hi.mono _ _ _ fun ds lk Γ1 q mc => let ⟨inv, i0, il, turn, last⟩ := (q mc).out; ⟨(q mc).le, inv, i0, il, turn, fun acc Γ2 i2 => hq _ _ (last acc Γ2 i2)⟩
def tdSortSt (t : TSt) : TD := fun Γ Q => t Γ fun xs Γ' => xs.length < 64 ∧ ∀ ns : List Int, ns.Pairwise (· < ·) → (∀ k, k ∈ ns ↔ k ∈ xs) → ∀ p, Q (.ow p (.lst (ns.map .int))) Γ'
theorem pd_sortSt {e : Expr} {t : TSt} {p : Pos} (hc : X.calm = true) (hg : Gl X "sorted") (hm : X.mg "sorted" = none) (he : PSt X e t) (hv : bootBuiltins "sorted" = some (.builtin "sorted") := by decide +kernel)
    (na : starEach [e] X.env = (false, eval e X.env) :: starEach [] X.env := by rfl) (hpl : (backTo pos (starEach [] X.env)).any (·.1) = false := by rfl) : PD X (.Call (.Name "sorted" p) [e] [] pos) (tdSortSt t) := by
  refine ⟨PE.imp (pe_callB (cr_sortedSet hc) hg hm hv (pa_cons he.run pa_nil na) (by decide) (by decide) na hpl) fun σ H Q ⟨Γ, g, q⟩ => ⟨Γ, g, he.mono _ _ _ (fun xs Γ' q p H' a ep np fp => ?_) q⟩, fun Γ Q Q' h => he.mono _ _ _ fun xs Γ' q => ⟨q.1, fun ns z1 z2 p => h _ _ (q.2 ns z1 z2 p)⟩⟩
  refine ⟨p, _, _, rfl, ep, q.1, fun ns p' z1 z2 z3 hn => ?_⟩
  have sm : Same H' (upd H' p' (.lst (ns.map V.int))) := same_upd hn
  exact q.2 ns z1 (fun k => by rw [z2 k]; simp) p' _ _ (a.trans g (Aft.same a.rg sm)) ⟨rfl, ⟨_, upd_same, Reps.of_ints ns⟩, fun z => a.rg.there z hn, a.fresh (.inr hn)⟩
end
end DL
/-! DL14: short words: constants of the module, built-ins, defs; freezing behind a statement. -/
namespace DL
open PySem PySem.Spec PyProof.Rows L2
/-- the built-in names stand for the built-ins -/
structure Bl (mg : Str → Option Value) : Prop where
  abs : mg "abs" = none
  bool : mg "bool" = none
  dict : mg "dict" = none
  enumerate : mg "enumerate" = none
  int : mg "int" = none
  isinstance : mg "isinstance" = none
  len : mg "len" = none
  list : mg "list" = none
  max : mg "max" = none
  min : mg "min" = none
  range : mg "range" = none
  sorted : mg "sorted" = none
  str : mg "str" = none
  sum : mg "sum" = none
  tuple : mg "tuple" = none
theorem bt_abs : bootBuiltins "abs" = some (.builtin "abs") := by decide +kernel
theorem bt_len : bootBuiltins "len" = some (.builtin "len") := by decide +kernel
theorem bt_max : bootBuiltins "max" = some (.builtin "max") := by decide +kernel
theorem bt_min : bootBuiltins "min" = some (.builtin "min") := by decide +kernel
theorem bt_sorted : bootBuiltins "sorted" = some (.builtin "sorted") := by decide +kernel
theorem bt_sum : bootBuiltins "sum" = some (.builtin "sum") := by decide +kernel
theorem bt_int : bootBuiltins "int" = some (.type "int") := by decide +kernel
theorem bt_bool : bootBuiltins "bool" = some (.type "bool") := by decide +kernel
theorem bt_str : bootBuiltins "str" = some (.type "str") := by decide +kernel
theorem bt_dict : bootBuiltins "dict" = some (.type "dict") := by decide +kernel
theorem bt_list : bootBuiltins "list" = some (.type "list") := by decide +kernel
theorem bt_tuple : bootBuiltins "tuple" = some (.type "tuple") := by decide +kernel
section
variable {X : Cx} {pos : Pos}
theorem pd_gint {x : Str} {i : Int} (h : ∃ t, X.mg x = some (.int i t)) (hg : Gl X x := by rfl) (hd : (x == ("__debug__" : Str)) = false := by decide) : PD X (.Name x pos) (tdC (.int i)) := by
  obtain ⟨t, h⟩ := h
  exact pd_glob hg h (v := .int i) ⟨t, rfl⟩ (fun _ => rfl) hd
theorem pd_gstr {x z : Str} (h : ∃ t, X.mg x = some (.str z t)) (hz : PyData.strOk z = true := by decide +kernel) (hg : Gl X x := by rfl) (hd : (x == ("__debug__" : Str)) = false := by decide) : PD X (.Name x pos) (tdC (.str z)) := by
  obtain ⟨t, h⟩ := h
  exact pd_glob hg h (v := .str z) ⟨t, rfl⟩ (fun _ => ⟨rfl, hz⟩) hd
inductive Ty
  | bool
  | int
  | str
  | list
  | tuple
  | dict
def Ty.nm : Ty → String
  | .bool => "bool"
  | .int => "int"
  | .str => "str"
  | .list => "list"
  | .tuple => "tuple"
  | .dict => "dict"
def Ty.has : Ty → D → Bool
  | .bool, .bool _ => true
  | .int, .bool _ => true
  | .int, .int _ => true
  | .str, .str _ => true
  | .list, .list _ => true
  | .tuple, .tuple _ => true
  | .dict, .dict _ => true
  | _, _ => false
inductive Tg
  | n
  | b
  | i
  | s
  | l
  | t
  | d
def tgOf : D → Tg
  | .none => .n
  | .bool _ => .b
  | .int _ => .i
  | .str _ => .s
  | .list _ => .l
  | .tuple _ => .t
  | .dict _ => .d
def Tg.nm : Tg → String
  | .n => "NoneType"
  | .b => "bool"
  | .i => "int"
  | .s => "str"
  | .l => "list"
  | .t => "tuple"
  | .d => "dict"
def Ty.hasT : Ty → Tg → Bool
  | .bool, .b => true
  | .int, .b => true
  | .int, .i => true
  | .str, .s => true
  | .list, .l => true
  | .tuple, .t => true
  | .dict, .d => true
  | _, _ => false
theorem Ty.kit (t : Ty) (g : Tg) : kitB g.nm t.nm = some (t.hasT g) := by cases t <;> cases g <;> decide +kernel
theorem Ty.has_ok (t : Ty) (d : D) : kitB (tyName d) t.nm = some (t.has d) := by
  have e1 : tyName d = (tgOf d).nm := by cases d <;> rfl
  have e2 : t.has d = t.hasT (tgOf d) := by cases t <;> cases d <;> rfl
  rw [e1, e2]
  exact t.kit _
def tdIs (T : Ty) (ta : TD) : TD := fun Γ Q => ta Γ fun r Γ' => dat Γ' r fun d => Q (.fz (.bool (T.has d))) Γ'
theorem pd_is {a : Expr} {ta : TD} {p p2 : Pos} {x : Str} (T : Ty) (hg : Gl X "isinstance") (hm : X.mg "isinstance" = none) (hgT : Gl X x) (hmT : X.mg x = none) (hvT : bootBuiltins x = some (.type T.nm)) (ha : PD X a ta)
    (hnT : x ≠ "__name__" := by decide) (hdT : (x == ("__debug__" : Str)) = false := by decide) (hv : bootBuiltins "isinstance" = some (.builtin "isinstance") := by decide +kernel)
    (na : starEach [a, .Name x p2] X.env = (false, eval a X.env) :: starEach [.Name x p2] X.env := by rfl) (nb : starEach [Expr.Name x p2] X.env = (false, eval (.Name x p2) X.env) :: starEach [] X.env := by rfl)
    (hpl : (backTo pos (starEach [Expr.Name x p2] X.env)).any (·.1) = false := by rfl) : PD X (.Call (.Name "isinstance" p) [a, .Name x p2] [] pos) (tdIs T ta) := by
  have h := pd_isi (T := T.nm) (pos := pos) (p := p) hg hm hgT hmT hvT ha hnT hdT hv na nb hpl
  have e : tdIsi T.nm ta = tdIs T ta := by
    funext Γ Q
    unfold tdIsi tdIs
    congr 1
    funext r Γ'
    congr 1
    funext d
    apply propext
    rw [Ty.has_ok]
    constructor
    · rintro ⟨k, e, q⟩
      cases e
      exact q
    · exact fun q => ⟨_, rfl, q⟩
  rw [← e]
  exact h
/-- is True, is not False, .. of words -/
def gIsB (neg : Bool) : G2 := fun d e k => match d, e with
  | .bool b, .bool c => k (.dat (.bool (if neg then !decide (b = c) else decide (b = c))))
  | _, _ => False
theorem bool_beq (b c : Bool) : (Value.bool b == Value.bool c) = decide (b = c) := by cases b <;> cases c <;> decide +kernel
theorem op_isB : OpR X (compareOp .Is) (fun x y H Q => ∃ b c : Bool, x = .bl b ∧ y = .bl c ∧ Q (.bl (decide (b = c))) H) := by
  intro pins s σ H x y v u Q I rx ry h
  obtain ⟨b, c, rfl, rfl, q⟩ := h
  cases rx
  cases ry
  exact wpAny_is_plain rfl ⟨.bl _, H, I, by rw [bool_beq]; rfl, q⟩
theorem op_isNotB : OpR X (compareOp .IsNot) (fun x y H Q => ∃ b c : Bool, x = .bl b ∧ y = .bl c ∧ Q (.bl (!decide (b = c))) H) := by
  intro pins s σ H x y v u Q I rx ry h
  obtain ⟨b, c, rfl, rfl, q⟩ := h
  cases rx
  cases ry
  exact wpAny_isNot_plain rfl ⟨.bl _, H, I, by rw [bool_beq]; rfl, q⟩
theorem gIsB_mono {neg : Bool} : ∀ d e (k k' : R → Prop), (∀ z, k z → k' z) → gIsB neg d e k → gIsB neg d e k' := fun d e k k' h q => by
  unfold gIsB at q ⊢
  split at q
  · exact h _ q
  · exact q
theorem od_isB : OpD X (compareOp .Is) (gIsB false) := by
  refine ⟨⟨_, op_isB, fun H d e v u Q nd ne q => ?_⟩, gIsB_mono⟩
  unfold gIsB at q
  split at q
  · exact ⟨_, _, nd.bool, ne.bool, q _ H (same_refl H) rfl⟩
  · exact q.elim
theorem od_isNotB : OpD X (compareOp .IsNot) (gIsB true) := by
  refine ⟨⟨_, op_isNotB, fun H d e v u Q nd ne q => ?_⟩, gIsB_mono⟩
  unfold gIsB at q
  split at q
  · exact ⟨_, _, nd.bool, ne.bool, q _ H (same_refl H) rfl⟩
  · exact q.elim
/-- a def of the text by its name -/
structure DefOk (P : Program) (w : World) (K : PySem.W.Frag) (mg : Str → Option Value) (base : Heap) (k : Nat) (x : Str) (ps : List Str) (n : Nat) (sp : SpD) : Prop where
  ok : ∃ f fd, FnOk P w K mg base CX0 k f fd ps (liftSp K n sp) ∧ mg x = some (.ref f) ∧ PySem.W.keepIn K (.ref f) = true ∧ L2.Binds K fd ps []
  ms : MonoSp sp
theorem pd_def {k n j : Nat} {ps : List Str} {sp : SpD} {x : Str} {p : Pos} {e : Expr} {es : List Expr} {t : TAD} (F : DefOk X.prog X.w X.K X.mg X.base k x ps n sp) (hr : Room j X.A) (ha : PAD X (e :: es) t) (hj : k ≤ j := by first | decide | omega) (hg : Gl X x := by rfl) (hn : (e :: es).length + 0 = n := by rfl)
    (hdb : (x == ("__debug__" : Str)) = false := by decide) (he : starEach (e :: es) X.env = (false, eval e X.env) :: starEach es X.env := by rfl) (hpl : (backTo pos (starEach es X.env)).any (·.1) = false := by rfl) : PD X (.Call (.Name x p) (e :: es) [] pos) (tdCallD sp [] t) := by
  obtain ⟨f, fd, h1, h2, h3, h4⟩ := F.ok
  exact pd_callD (dvs := []) (dD := []) h1 F.ms (hr.mono hj) hg h2 h3 h4 .nil (fun _ => rfl) pass0 ha hn hdb he hpl
/-- the list of the slot i frozen behind a statement -/
def frzS (i : Nat) (Γ : G) : G := match Γ[i]? with
  | some (.ow _ (.lst ds)) => Γ.set i (.fz (.list ds))
  | _ => Γ
def tsFz (i : Nat) (t : TSD) : TSD := fun E Γ => t { E with nx := fun Γ' => E.nx (frzS i Γ') } Γ
theorem pd_sfz (i : Nat) {st : Stmt} {t : TSD} (h : PDS X st t) : PDS X st (tsFz i t) := by
  refine ⟨⟨fun pins s σ H E I ⟨Γ, g, q⟩ => ?_⟩, fun E E' Γ hl => h.mono _ _ _ ⟨fun Γ' z => hl.nx _ z, hl.rt, hl.bk, hl.ct⟩⟩
  refine thn (h.run.run pins s σ H { E with nx := fun σ' H' => ∃ Γ', Aft X.K H Γ H' σ' Γ' ∧ ∀ H2, Aft X.K H Γ H2 σ' (frzS i Γ') → E.nx σ' H2 } I ⟨Γ, g, h.mono _ _ _ ?_ q⟩) fun f s' r => ?_
  · exact ⟨fun Γ' z σ' H' a => ⟨Γ', a, fun H2 a2 => z σ' H2 a2⟩, fun r Γ' z => z, fun Γ' z => z, fun Γ' z => z⟩
  · cases f with
    | next =>
      obtain ⟨σ', H', I', Γ', a, z⟩ := r
      unfold frzS at z
      split at z
      · rename_i p ds e
        obtain ⟨_, vs, w2, rp⟩ := a.rg.ow _ _ _ e
        obtain ⟨od, I2⟩ := I'.lock w2 Mut.lst
        have im : Imm H' (upd H' p (.frz od (.lst vs))) := imm_frz (by rw [w2]; trivial)
        have rl : Rep X.K (upd H' p (.frz od (.lst vs))) (.list ds) (.ref p) := ⟨p, vs, rfl, .inl ⟨od, upd_same⟩, rp.imm im⟩
        obtain ⟨g1, n1⟩ := rg_drop a.rg (sv := .fz (.list ds)) e im keep_upd (fun _ _ z => by cases z) (fun d z => by cases z; exact rl) (fun _ z => by cases z)
        refine ⟨σ', _, I2, z _ ⟨fun c u z1 z2 => ?_, g1, fun c z => a.sh c (n1 c z).1⟩⟩
        have ne : c ≠ p := fun y => by
          subst y
          rcases a.sh c ⟨i, _, e⟩ with f | f
          · exact z2 f
          · rw [f] at z1; cases z1
        rw [upd_ne ne]
        exact a.keep _ _ z1 z2
      · exact ⟨σ', H', I', z H' a⟩
    | ret v => exact r
    | brk => exact r
    | cont => exact r
end
/-- what a reading is: evaluated at its head -/
theorem hu64 {A : Around} {k : Nat} (hr : Room k A) : A.units + 64 < cLine := by
  have := hr.un
  omega
end DL
/-! DL15: forms of readings that one uses: pure comprehensions, loops by the index; facts about data. -/
namespace DL
open PySem PySem.Spec PyProof.Rows L2
abbrev tI (xs : List Int) : D := .tuple (xs.map .int)
abbrev lI (xs : List Int) : D := .list (xs.map .int)
section
variable {ds : List D} {lk : Lk} {Γ1 : G} {tg : TGD} {tt : TB} {te : TD} {vs : List Nat} {Q : SV → G → Prop}
theorem LcR.pure (mc : MonoC tg tt te) (p : D → Bool) (f : D → D) (hlk : lkOk lk (wipeD Γ1 vs))
    (h : ∀ d, d ∈ ds → tg d (wipeD Γ1 vs) fun Γ2 => tt Γ2 fun b Γ3 => b = p d ∧ (b = true → te Γ3 fun r Γ4 => r = .fz (f d) ∧ wipeD Γ4 vs = wipeD Γ1 vs) ∧ (b = false → wipeD Γ3 vs = wipeD Γ1 vs))
    (q : ∀ a, Q (.ow a (.lst ((ds.filter p).map f))) (unwipe (wipeD Γ1 vs) Γ1 vs)) : LcR ds lk Γ1 tg tt te vs Q := by
  refine ⟨fun done rest acc Γ => acc = (done.filter p).map f ∧ Γ = wipeD Γ1 vs, ⟨rfl, rfl⟩, fun _ _ _ Γ _ ⟨_, e⟩ => by rw [e]; exact hlk, fun done d rest acc Γ e ⟨ea, eΓ⟩ => ?_, fun acc Γ ⟨ea, eΓ⟩ a => by rw [ea, eΓ]; exact q a⟩
  subst eΓ
  have hd : d ∈ ds := by rw [← e]; simp
  refine mc.mg _ _ _ _ (fun Γ2 z => mc.mt _ _ _ (fun b Γ3 z => ?_) z) (h d hd)
  obtain ⟨eb, z1, z2⟩ := z
  cases b with
  | true =>
    rw [br_iff, if_pos rfl]
    refine mc.me _ _ _ (fun r Γ4 z => ?_) (z1 rfl)
    obtain ⟨rfl, e4⟩ := z
    refine ⟨f d, rfl, ?_, e4⟩
    rw [ea, List.filter_append, List.map_append, List.filter_cons, ← eb]
    rfl
  | false =>
    rw [br_iff, if_neg Bool.false_ne_true]
    refine ⟨?_, z2 rfl⟩
    rw [ea, List.filter_append, List.map_append, List.filter_cons, ← eb]
    simp
theorem LcR.ints {xs : List Int} (mc : MonoC tg tt te) (p : Int → Bool) (f : Int → D) (hlk : lkOk lk (wipeD Γ1 vs))
    (h : ∀ x, x ∈ xs → tg (.int x) (wipeD Γ1 vs) fun Γ2 => tt Γ2 fun b Γ3 => b = p x ∧ (b = true → te Γ3 fun r Γ4 => r = .fz (f x) ∧ wipeD Γ4 vs = wipeD Γ1 vs) ∧ (b = false → wipeD Γ3 vs = wipeD Γ1 vs))
    (q : ∀ a, Q (.ow a (.lst ((xs.filter p).map f))) (unwipe (wipeD Γ1 vs) Γ1 vs)) : LcR (xs.map .int) lk Γ1 tg tt te vs Q := by
  let P : D → Bool := fun d => match d with
    | .int x => p x
    | _ => false
  let F : D → D := fun d => match d with
    | .int x => f x
    | _ => .none
  refine LcR.pure mc P F hlk (fun d hd => ?_) (fun a => ?_)
  · obtain ⟨x, hx, rfl⟩ := List.mem_map.mp hd
    exact h x hx
  · have e : ((xs.map PyData.int).filter P).map F = (xs.filter p).map f := by
      rw [List.filter_map, List.map_map]
      rfl
    rw [e]
    exact q a
/-- over signs of a text -/
theorem LcR.signs {z : Str} (mc : MonoC tg tt te) (p : Nat → Bool) (f : Nat → D) (hlk : lkOk lk (wipeD Γ1 vs))
    (h : ∀ c, c ∈ z.cps.toList → tg (.str ⟨#[c]⟩) (wipeD Γ1 vs) fun Γ2 => tt Γ2 fun b Γ3 => b = p c ∧ (b = true → te Γ3 fun r Γ4 => r = .fz (f c) ∧ wipeD Γ4 vs = wipeD Γ1 vs) ∧ (b = false → wipeD Γ3 vs = wipeD Γ1 vs))
    (q : ∀ a, Q (.ow a (.lst ((z.cps.toList.filter p).map f))) (unwipe (wipeD Γ1 vs) Γ1 vs)) : LcR (signsD z) lk Γ1 tg tt te vs Q := by
  let P : D → Bool := fun d => match d with
    | .str x => p (x.cps.getD 0 0)
    | _ => false
  let F : D → D := fun d => match d with
    | .str x => f (x.cps.getD 0 0)
    | _ => .none
  refine LcR.pure mc P F hlk (fun d hd => ?_) (fun a => ?_)
  · obtain ⟨x, hx, rfl⟩ := List.mem_map.mp hd
    exact h x hx
  · have e : ((signsD z).filter P).map F = (z.cps.toList.filter p).map f := by
      unfold signsD
      rw [List.filter_map, List.map_map]
      rfl
    rw [e]
    exact q a
/-- over any list of things -/
theorem LcR.of {α : Type} {enc : α → D} {xs : List α} (mc : MonoC tg tt te) (p : α → Bool) (f : α → D) (hlk : lkOk lk (wipeD Γ1 vs))
    (h : ∀ x, x ∈ xs → tg (enc x) (wipeD Γ1 vs) fun Γ2 => tt Γ2 fun b Γ3 => b = p x ∧ (b = true → te Γ3 fun r Γ4 => r = .fz (f x) ∧ wipeD Γ4 vs = wipeD Γ1 vs) ∧ (b = false → wipeD Γ3 vs = wipeD Γ1 vs))
    (q : ∀ a, Q (.ow a (.lst ((xs.filter p).map f))) (unwipe (wipeD Γ1 vs) Γ1 vs)) : LcR (xs.map enc) lk Γ1 tg tt te vs Q := by
  refine ⟨fun done rest acc Γ => ∃ us ws, us ++ ws = xs ∧ done = us.map enc ∧ rest = ws.map enc ∧ acc = (us.filter p).map f ∧ Γ = wipeD Γ1 vs, ⟨[], xs, rfl, rfl, rfl, rfl, rfl⟩, fun _ _ _ Γ _ ⟨_, _, _, _, _, _, e⟩ => by rw [e]; exact hlk, fun done d rest acc Γ e ⟨us, ws, e1, e2, e3, ea, eΓ⟩ => ?_, fun acc Γ ⟨us, ws, e1, e2, e3, ea, eΓ⟩ a => ?_⟩
  · subst eΓ
    cases ws with
    | nil => simp at e3
    | cons x ws =>
      simp only [List.map_cons, List.cons.injEq] at e3
      obtain ⟨rfl, e3⟩ := e3
      have hx : x ∈ xs := by rw [← e1]; simp
      refine mc.mg _ _ _ _ (fun Γ2 z => mc.mt _ _ _ (fun b Γ3 z => ?_) z) (h x hx)
      obtain ⟨eb, z1, z2⟩ := z
      cases b with
      | true =>
        rw [br_iff, if_pos rfl]
        refine mc.me _ _ _ (fun r Γ4 z => ?_) (z1 rfl)
        obtain ⟨rfl, e4⟩ := z
        refine ⟨f x, rfl, us ++ [x], ws, by rw [← e1]; simp, by rw [e2]; simp, e3, ?_, e4⟩
        rw [ea, List.filter_append, List.map_append, List.filter_cons, ← eb]
        rfl
      | false =>
        rw [br_iff, if_neg Bool.false_ne_true]
        refine ⟨us ++ [x], ws, by rw [← e1]; simp, by rw [e2]; simp, e3, ?_, z2 rfl⟩
        rw [ea, List.filter_append, List.map_append, List.filter_cons, ← eb]
        simp
  · have hw : ws = [] := by simpa using e3.symm
    subst hw
    rw [List.append_nil] at e1
    subst e1
    rw [ea, eΓ]
    exact q a
/-- over ints, by tests that may change what is one's own: some of them come back -/
theorem LcR.sub {xs : List Int} (mc : MonoC tg tt te) (J : G → Prop) (h0 : J (wipeD Γ1 vs)) (hlk : ∀ Γ, J Γ → lkOk lk Γ)
    (h : ∀ x, x ∈ xs → ∀ Γ, J Γ → tg (.int x) Γ fun Γ2 => tt Γ2 fun b Γ3 => (b = true → te Γ3 fun r Γ4 => r = .fz (.int x) ∧ J (wipeD Γ4 vs)) ∧ (b = false → J (wipeD Γ3 vs)))
    (q : ∀ a (ys : List Int) Γ, ys.Sublist xs → J Γ → Q (.ow a (.lst (ys.map .int))) (unwipe Γ Γ1 vs)) : LcR (xs.map .int) lk Γ1 tg tt te vs Q := by
  refine ⟨fun done rest acc Γ => ∃ us ws ys : List Int, us ++ ws = xs ∧ done = us.map .int ∧ rest = ws.map .int ∧ acc = ys.map .int ∧ ys.Sublist us ∧ J Γ, ⟨[], xs, [], rfl, rfl, rfl, rfl, .slnil, h0⟩, fun _ _ _ Γ _ ⟨_, _, _, _, _, _, _, _, e⟩ => hlk Γ e, fun done d rest acc Γ e ⟨us, ws, ys, e1, e2, e3, ea, es, j⟩ => ?_, fun acc Γ ⟨us, ws, ys, e1, e2, e3, ea, es, j⟩ a => ?_⟩
  · cases ws with
    | nil => simp at e3
    | cons x ws =>
      simp only [List.map_cons, List.cons.injEq] at e3
      obtain ⟨rfl, e3⟩ := e3
      have hx : x ∈ xs := by rw [← e1]; simp
      refine mc.mg _ _ _ _ (fun Γ2 z => mc.mt _ _ _ (fun b Γ3 z => ?_) z) (h x hx Γ j)
      obtain ⟨z1, z2⟩ := z
      cases b with
      | true =>
        rw [br_iff, if_pos rfl]
        refine mc.me _ _ _ (fun r Γ4 z => ?_) (z1 rfl)
        obtain ⟨rfl, e4⟩ := z
        refine ⟨_, rfl, us ++ [x], ws, ys ++ [x], by rw [← e1]; simp, by rw [e2]; simp, e3, by rw [ea]; simp, List.Sublist.append es (.refl _), e4⟩
      | false =>
        rw [br_iff, if_neg Bool.false_ne_true]
        refine ⟨us ++ [x], ws, ys, by rw [← e1]; simp, by rw [e2]; simp, e3, ea, es.trans (List.sublist_append_left _ _), z2 rfl⟩
  · have hw : ws = [] := by simpa using e3.symm
    subst hw
    rw [List.append_nil] at e1
    subst e1
    rw [ea]
    exact q a ys Γ es j
end
section
variable {ds : List D} {lk : Lk} {Γ1 : G} {tg : TGD} {tt : TB} {te : TD} {vs : List Nat} {Q : List Int → G → Prop}
/-- a set comprehension over ints that tests and reckons purely -/
theorem ScR.ints {xs : List Int} (mc : MonoC tg tt te) (p : Int → Bool) (f : Int → Int) (hlk : lkOk lk (wipeD Γ1 vs)) (hle : xs.length ≤ 1000)
    (h : ∀ x, x ∈ xs → tg (.int x) (wipeD Γ1 vs) fun Γ2 => tt Γ2 fun b Γ3 => b = p x ∧ (b = true → te Γ3 fun r Γ4 => r = .fz (.int (f x)) ∧ wipeD Γ4 vs = wipeD Γ1 vs) ∧ (b = false → wipeD Γ3 vs = wipeD Γ1 vs))
    (q : ∀ ys : List Int, (∀ k, k ∈ ys ↔ k ∈ (xs.filter p).map f) → ys.length ≤ xs.length → Q ys (unwipe (wipeD Γ1 vs) Γ1 vs)) : ScR (xs.map .int) lk Γ1 tg tt te vs Q := by
  refine ⟨by rw [List.length_map]; exact hle, fun done rest acc Γ => ∃ us ws, us ++ ws = xs ∧ done = us.map .int ∧ rest = ws.map .int ∧ (∀ k, k ∈ acc ↔ k ∈ (us.filter p).map f) ∧ acc.length ≤ us.length ∧ Γ = wipeD Γ1 vs, ⟨[], xs, rfl, rfl, rfl, by simp, Nat.le_refl _, rfl⟩, fun _ _ _ Γ _ ⟨_, _, _, _, _, _, _, e⟩ => by rw [e]; exact hlk, fun done d rest acc Γ e ⟨us, ws, e1, e2, e3, ea, el, eΓ⟩ => ?_, fun acc Γ ⟨us, ws, e1, e2, e3, ea, el, eΓ⟩ => ?_⟩
  · subst eΓ
    cases ws with
    | nil => simp at e3
    | cons x ws =>
      simp only [List.map_cons, List.cons.injEq] at e3
      obtain ⟨rfl, e3⟩ := e3
      have hx : x ∈ xs := by rw [← e1]; simp
      refine mc.mg _ _ _ _ (fun Γ2 z => mc.mt _ _ _ (fun b Γ3 z => ?_) z) (h x hx)
      obtain ⟨eb, z1, z2⟩ := z
      cases b with
      | true =>
        rw [br_iff, if_pos rfl]
        refine mc.me _ _ _ (fun r Γ4 z => ?_) (z1 rfl)
        obtain ⟨rfl, e4⟩ := z
        refine ⟨f x, rfl, us ++ [x], ws, by rw [← e1]; simp, by rw [e2]; simp, e3, fun k => ?_, Nat.le_trans addU_len (by simpa using el), e4⟩
        rw [mem_addU, ea, List.filter_append, List.map_append, List.mem_append, List.filter_cons, ← eb]
        simp
      | false =>
        rw [br_iff, if_neg Bool.false_ne_true]
        refine ⟨us ++ [x], ws, by rw [← e1]; simp, by rw [e2]; simp, e3, fun k => ?_, by rw [List.length_append]; exact Nat.le_succ_of_le el, z2 rfl⟩
        rw [ea, List.filter_append, List.map_append, List.mem_append, List.filter_cons, ← eb]
        simp
  · have hw : ws = [] := by simpa using e3.symm
    subst hw
    rw [List.append_nil] at e1
    subst e1
    rw [eΓ]
    exact q acc ea el
end
section
variable {ds : List D} {lk : Lk} {Γ1 : G} {tg : TGD} {tb : TSD} {E : EndD}
/-- for, by the index -/
theorem ForR.ix (inv : Nat → G → Prop) (h0 : inv 0 Γ1) (hlk : ∀ i Γ, i ≤ ds.length → inv i Γ → lkOk lk Γ)
    (step : ∀ i d Γ, ds[i]? = some d → inv i Γ → tg d Γ fun Γ2 => tb { E with nx := inv (i + 1), ct := inv (i + 1), bk := E.nx } Γ2) (last : ∀ Γ, inv ds.length Γ → E.nx Γ) : ForR E ds lk Γ1 tg tb := by
  refine ⟨fun done rest Γ => inv done.length Γ, h0, fun done rest Γ e i => hlk done.length Γ (by rw [← e, List.length_append]; omega) i, fun done d rest Γ e i => ?_, fun Γ i => last Γ i⟩
  have ed : ds[done.length]? = some d := by
    rw [← e, List.getElem?_append_right (Nat.le_refl _), Nat.sub_self]
    rfl
  have := step done.length d Γ ed i
  simp only [List.length_append, List.length_singleton]
  exact this
/-- over range(a, b) -/
theorem ForR.rg {a b : Int} (inv : Nat → G → Prop) (h0 : inv 0 Γ1)
    (step : ∀ (i : Nat) Γ, i < (b - a).toNat → inv i Γ → tg (.int (a + i)) Γ fun Γ2 => tb { E with nx := inv (i + 1), ct := inv (i + 1), bk := E.nx } Γ2) (last : ∀ Γ, inv (b - a).toNat Γ → E.nx Γ) : ForR E (rgD a b) none Γ1 tg tb := by
  have hl : (rgD a b).length = (b - a).toNat := by unfold rgD; simp
  refine ForR.ix inv h0 (fun _ _ _ _ => trivial) (fun i d Γ e hi => ?_) (fun Γ h => last Γ (by rw [← hl]; exact h))
  have hlt : i < (b - a).toNat := by
    rw [← hl]
    exact (List.getElem?_eq_some_iff.mp e).1
  have ed : d = .int (a + i) := by
    unfold rgD at e
    rw [List.getElem?_map, List.getElem?_range hlt] at e
    exact (Option.some.inj e).symm
  subst ed
  exact step i Γ hlt hi
/-- over range(b) -/
theorem ForR.rg0 {b : Int} (inv : Nat → G → Prop) (h0 : inv 0 Γ1)
    (step : ∀ (i : Nat) Γ, (i : Int) < b → inv i Γ → tg (.int (i : Nat)) Γ fun Γ2 => tb { E with nx := inv (i + 1), ct := inv (i + 1), bk := E.nx } Γ2) (last : ∀ Γ, inv b.toNat Γ → E.nx Γ) : ForR E (rgD 0 b) none Γ1 tg tb := by
  refine ForR.rg inv h0 (fun i Γ hi h => ?_) (fun Γ h => last Γ (by rw [Int.sub_zero] at h; exact h))
  rw [Int.zero_add]
  exact step i Γ (by omega) h
/-- over any list of things -/
theorem ForR.of {α : Type} {enc : α → D} {xs : List α} (inv : List α → List α → G → Prop) (h0 : inv [] xs Γ1) (hlk : ∀ us ws Γ, us ++ ws = xs → inv us ws Γ → lkOk lk Γ)
    (step : ∀ us x ws Γ, us ++ x :: ws = xs → inv us (x :: ws) Γ → tg (enc x) Γ fun Γ2 => tb { E with nx := inv (us ++ [x]) ws, ct := inv (us ++ [x]) ws, bk := E.nx } Γ2) (last : ∀ Γ, inv xs [] Γ → E.nx Γ) (mf : MonoF tg tb) : ForR E (xs.map enc) lk Γ1 tg tb := by
  refine ⟨fun done rest Γ => ∃ us ws, us ++ ws = xs ∧ done = us.map enc ∧ rest = ws.map enc ∧ inv us ws Γ, ⟨[], xs, rfl, rfl, rfl, h0⟩, fun done rest Γ e ⟨us, ws, e1, _, _, i⟩ => hlk us ws Γ e1 i, fun done d rest Γ e ⟨us, ws, e1, e2, e3, i⟩ => ?_, fun Γ ⟨us, ws, e1, e2, e3, i⟩ => ?_⟩
  · cases ws with
    | nil => simp at e3
    | cons x ws =>
      simp only [List.map_cons, List.cons.injEq] at e3
      obtain ⟨rfl, e3⟩ := e3
      have up : ∀ Γ, inv (us ++ [x]) ws Γ → ∃ us' ws', us' ++ ws' = xs ∧ done ++ [enc x] = us'.map enc ∧ rest = ws'.map enc ∧ inv us' ws' Γ := fun Γ z => ⟨us ++ [x], ws, by rw [← e1]; simp, by rw [e2]; simp, e3, z⟩
      refine mf.mg _ _ _ _ (fun Γ2 z => mf.mb _ _ _ ?_ z) (step us x ws Γ e1 i)
      exact ⟨fun Γ z => up Γ z, fun _ _ z => z, fun _ z => z, fun Γ z => up Γ z⟩
  · have hw : ws = [] := by simpa using e3.symm
    subst hw
    rw [List.append_nil] at e1
    subst e1
    exact last Γ i
end
/-- a cut: what stands behind the first statement is said in words -/
structure CutR (A B : TSD) (E : EndD) (Γ : G) : Prop where
  out : ∃ Inv : G → Prop, A { E with nx := Inv } Γ ∧ ∀ Γ', Inv Γ' → B E Γ'
def tsCut (A B : TSD) : TSD := fun E Γ => CutR A B E Γ
theorem pds_cut {X : Cx} {st : Stmt} {rest : List Stmt} {t u : TSD} (h1 : PDS X st t) (h2 : PDSs X rest u) : PDSs X (st :: rest) (tsCut t u) := by
  have h := pds_cons h1 h2
  refine ⟨PSs.imp h.run fun D σ H ⟨Γ, g, q⟩ => ⟨Γ, g, ?_⟩, fun D D' Γ le q => ?_⟩
  · obtain ⟨Inv, q1, q2⟩ := q.out
    exact h1.mono { liftD X.K Γ H D with nx := Inv } { liftD X.K Γ H D with nx := u (liftD X.K Γ H D) } Γ ⟨fun Γ' z => q2 Γ' z, fun _ _ z => z, fun _ z => z, fun _ z => z⟩ q1
  · obtain ⟨Inv, q1, q2⟩ := q.out
    exact ⟨Inv, h1.mono { D with nx := Inv } { D' with nx := Inv } Γ ⟨fun _ z => z, le.rt, le.bk, le.ct⟩ q1, fun Γ' z => h2.mono _ _ _ le (q2 Γ' z)⟩
/-! ### facts about data -/
theorem flat_ints (xs : List Int) : (xs.map PyData.int).all flat = true := by simp [flat]
theorem flat_strs (xs : List Str) : (xs.map PyData.str).all flat = true := by simp [flat]
theorem isIn_ints (x : Int) (xs : List Int) : isIn (.int x) (xs.map .int) = decide (x ∈ xs) := by
  unfold isIn
  rw [List.any_map, Bool.eq_iff_iff]
  simp [PyData.eqv]
theorem isIn_strs (x : Str) (xs : List Str) : isIn (.str x) (xs.map .str) = decide (x ∈ xs) := by
  unfold isIn
  rw [List.any_map, Bool.eq_iff_iff]
  simp [PyData.eqv]
theorem eqv_nil (ds : List D) : PyData.eqv (.list ds) (.list []) = ds.isEmpty := by
  cases ds <;> simp [PyData.eqv, PyData.eqvAll]
theorem eqvAll_ints : ∀ xs ys : List Int, PyData.eqvAll (xs.map .int) (ys.map .int) = decide (xs = ys)
  | [], [] => by simp [PyData.eqvAll]
  | [], _ :: _ => by simp [PyData.eqvAll]
  | _ :: _, [] => by simp [PyData.eqvAll]
  | x :: xs, y :: ys => by
    simp only [List.map_cons, PyData.eqvAll, PyData.eqv, eqvAll_ints xs ys, List.cons.injEq]
    rw [Bool.eq_iff_iff]
    simp
theorem eqv_lI (xs ys : List Int) : PyData.eqv (lI xs) (lI ys) = decide (xs = ys) := by
  show PyData.eqv (.list _) (.list _) = _
  rw [PyData.eqv]
  exact eqvAll_ints xs ys
theorem eqv_tI (xs ys : List Int) : PyData.eqv (tI xs) (tI ys) = decide (xs = ys) := by
  show PyData.eqv (.tuple _) (.tuple _) = _
  rw [PyData.eqv]
  exact eqvAll_ints xs ys
theorem depth_nil : (PyData.list []).depth ≤ 60 := by decide
theorem shal_nil {d : D} : shal d (.list []) := .inr depth_nil
theorem shal_int {i : Int} {d : D} : shal (.int i) d := .inl (by simp [PyData.depth])
theorem shal_bool {i : Bool} {d : D} : shal (.bool i) d := .inl (by simp [PyData.depth])
theorem shal_str {i : Str} {d : D} : shal (.str i) d := .inl (by simp [PyData.depth])
theorem eqv_int (i j : Int) : PyData.eqv (.int i) (.int j) = decide (i = j) := by
  rw [PyData.eqv]; rfl
theorem eqv_bool (i j : Bool) : PyData.eqv (.bool i) (.bool j) = decide (i = j) := by
  rw [PyData.eqv]; cases i <;> cases j <;> rfl
theorem eqv_str (i j : Str) : PyData.eqv (.str i) (.str j) = decide (i = j) := by
  rw [PyData.eqv, Bool.eq_iff_iff]; simp
theorem depthAll_ints (xs : List Int) : PyData.depthAll (xs.map .int) = 0 := by
  induction xs with
  | nil => rfl
  | cons x xs ih => simp [PyData.depthAll, PyData.depth, ih]
theorem depth_lI (xs : List Int) : (lI xs).depth ≤ 60 := by simp [PyData.depth, depthAll_ints]
theorem depth_tI (xs : List Int) : (tI xs).depth ≤ 60 := by simp [PyData.depth, depthAll_ints]
theorem isEmpty_filter {α : Type} (p : α → Bool) (xs : List α) : (xs.filter p).isEmpty = xs.all fun x => !p x := by
  induction xs with
  | nil => rfl
  | cons x xs ih =>
    rw [List.filter_cons, List.all_cons, ← ih]
    cases p x <;> simp
theorem cut_to {ds : List D} {i : Nat} : cutD ds none (some (i : Int)) = ds.take i := by
  unfold cutD
  rw [HT.sIx_none, HT.sIx_nat, Nat.sub_zero, List.drop_zero, ← List.take_eq_take_min]
theorem cut_from {ds : List D} {i : Nat} : cutD ds (some (i : Int)) none = ds.drop i := by
  unfold cutD
  rw [HT.sIx_none, HT.sIx_nat]
  rcases Nat.le_total i ds.length with h | h
  · rw [Nat.min_eq_left h]
    exact List.take_of_length_le (by rw [List.length_drop]; exact Nat.le_refl _)
  · rw [Nat.min_eq_right h, List.drop_of_length_le (Nat.le_refl _), List.drop_of_length_le h]
    simp
theorem enum0 {ds : List D} {i : Nat} {z : D} (h : (enumD 0 ds)[i]? = some z) : ∃ d, ds[i]? = some d ∧ z = .tuple [.int (i : Nat), d] := by
  obtain ⟨d, h1, h2⟩ := enumD_at h
  rw [Nat.zero_add] at h2
  exact ⟨d, h1, h2⟩
theorem map_at {α β : Type} {f : α → β} {xs : List α} {i : Nat} {b : β} (h : (xs.map f)[i]? = some b) : ∃ a, xs[i]? = some a ∧ b = f a := by
  rw [List.getElem?_map] at h
  cases e : xs[i]? with
  | none => rw [e] at h; cases h
  | some a => rw [e] at h; exact ⟨a, rfl, (Option.some.inj h).symm⟩
theorem filt_true {α : Type} (xs : List α) : (xs.filter fun _ => true) = xs := List.filter_eq_self.mpr fun _ _ => rfl
theorem isEmpty_map {α β : Type} (f : α → β) (xs : List α) : (xs.map f).isEmpty = xs.isEmpty := by cases xs <;> rfl
/-! ### the law's own argument -/
theorem rep_script {K : PySem.W.Frag} {H : Hp} {a : Addr} {ns : List Int} (hO : Only H) (hS : SqL K H a (ns.map V.int)) : Rep K H (lI ns) (.ref a) := by
  rcases hS with (h | ⟨o, h⟩) | h
  · rcases hO a with z | ⟨o, xs, z⟩
    · rw [h] at z; cases z
    · rw [h] at z; cases z
  · exact ⟨a, _, rfl, .inl ⟨o, h⟩, Reps.of_ints ns⟩
  · exact ⟨a, _, rfl, .inr h, Reps.of_ints ns⟩
theorem rg_one {K : PySem.W.Frag} {H : Hp} {d : D} {v : V} (h : Rep K H d v) : RG K H [some v] [.fz d] := by
  refine ⟨rfl, fun i d' e => ?_, fun i p o e => ?_, fun i v' e => ?_, fun i j p o o' e _ => ?_⟩
  · cases i with
    | zero => cases e; exact ⟨v, rfl, h⟩
    | succ i => cases e
  · cases i with
    | zero => cases e
    | succ i => cases e
  · cases i with
    | zero => cases e
    | succ i => cases e
  · cases i with
    | zero => cases e
    | succ i => cases e
/-- a law that comes true of every script -/
theorem law_start {K : PySem.W.Frag} {sp : SpD} {H : Hp} {a : Addr} {ns : List Int} {n : Nat} (h : ∀ (ns : List Int) (Q : SV → G → Prop) (E : XD → G → Prop), ns.length ≤ n → (∀ Γ, Q (.fz (.bool true)) Γ) → sp [.fz (lI ns)] Q E) (hl : ns.length ≤ n) (hO : Only H) (hS : SqL K H a (ns.map V.int)) :
    liftSp K 1 sp [.ref a] H (fun v _ => v = .bl true) fun _ _ _ => False :=
  ⟨rfl, _, rg_one (rep_script hO hS), h ns _ _ hl fun _ _ _ _ rs => rs⟩
/-- nothing is promised -/
def spNever : SpD := fun _ _ _ => False
end DL
/-! DL16: further forms of readings that one uses. -/
namespace DL
open PySem PySem.Spec PyProof.Rows L2
section
variable {lk : Lk} {Γ1 : G} {tg : TGD} {tt : TB} {te : TD} {vs : List Nat} {Q : SV → G → Prop}
/-- a comprehension over any list of things, by an invariant over what is done, what came of it, and the slots -/
theorem LcR.gen {α β : Type} {enc : α → D} {enb : β → D} {xs : List α} (mc : MonoC tg tt te) (J : List α → List β → G → Prop) (h0 : J [] [] (wipeD Γ1 vs)) (hlk : ∀ us bs Γ, J us bs Γ → lkOk lk Γ)
    (step : ∀ us x ws bs Γ, us ++ x :: ws = xs → J us bs Γ → tg (enc x) Γ fun Γ2 => tt Γ2 fun b Γ3 => Br b (te Γ3 fun r Γ4 => ∃ c, r = .fz (enb c) ∧ J (us ++ [x]) (bs ++ [c]) (wipeD Γ4 vs)) (J (us ++ [x]) bs (wipeD Γ3 vs)))
    (last : ∀ bs Γ, J xs bs Γ → ∀ a, Q (.ow a (.lst (bs.map enb))) (unwipe Γ Γ1 vs)) : LcR (xs.map enc) lk Γ1 tg tt te vs Q := by
  refine ⟨fun done rest acc Γ => ∃ us ws bs, us ++ ws = xs ∧ done = us.map enc ∧ rest = ws.map enc ∧ acc = bs.map enb ∧ J us bs Γ, ⟨[], xs, [], rfl, rfl, rfl, rfl, h0⟩, fun _ _ _ Γ _ ⟨us, _, bs, _, _, _, _, j⟩ => hlk us bs Γ j, fun done d rest acc Γ e ⟨us, ws, bs, e1, e2, e3, ea, j⟩ => ?_, fun acc Γ ⟨us, ws, bs, e1, e2, e3, ea, j⟩ a => ?_⟩
  · cases ws with
    | nil => simp at e3
    | cons x ws =>
      simp only [List.map_cons, List.cons.injEq] at e3
      obtain ⟨rfl, e3⟩ := e3
      refine mc.mg _ _ _ _ (fun Γ2 z => mc.mt _ _ _ (fun b Γ3 z => ?_) z) (step us x ws bs Γ e1 j)
      refine ⟨fun hb => ?_, fun hb => ?_⟩
      · refine mc.me _ _ _ (fun r Γ4 z => ?_) (z.yes hb)
        obtain ⟨c, rfl, j4⟩ := z
        exact ⟨_, rfl, us ++ [x], ws, bs ++ [c], by rw [← e1]; simp, by rw [e2]; simp, e3, by rw [ea]; simp, j4⟩
      · exact ⟨us ++ [x], ws, bs, by rw [← e1]; simp, by rw [e2]; simp, e3, ea, z.no hb⟩
  · have hw : ws = [] := by simpa using e3.symm
    subst hw
    rw [List.append_nil] at e1
    subst e1
    rw [ea]
    exact last bs Γ j a
end
end DL
/-! M0: yards as data; what is asked of them, in plain words. -/
namespace K
open PySem DL
structure Deed where
  name : Str
  needs : List Int
  sets : List Int
  strikes : List Int
  cost : Int
structure Yard where
  marks : List Str
  deeds : List Deed
  start : List Int
  wish : List Int
def dD (d : Deed) : D := .tuple [.str d.name, tI d.needs, tI d.sets, tI d.strikes, .int d.cost]
def yD (y : Yard) : D := .tuple [.tuple (y.marks.map .str), .tuple (y.deeds.map dD), tI y.start, tI y.wish]
abbrev small26 : Str := "abcdefghijklmnopqrstuvwxyz"
def isName (z : Str) : Bool := decide ((1 : Int) ≤ (z.length : Int)) && (decide ((z.length : Int) ≤ 6) && z.cps.toList.all fun c => decide (c ∈ small26.cps.toList))
def areMarks (xs : List Int) (n : Int) : Bool := decide (xs.Pairwise (· < ·)) && xs.all fun m => decide (0 ≤ m) && decide (m < n)
def isDeed (d : Deed) (before : List Deed) (n : Int) : Bool :=
  isName d.name && !(before.map Deed.name).contains d.name && (decide (0 ≤ d.cost) && decide (d.cost ≤ 99)) && areMarks d.needs n && areMarks d.sets n && areMarks d.strikes n && d.sets.all fun m => !decide (m ∈ d.strikes)
/-- rising lists of the same members are one -/
theorem rise_eq : ∀ {xs ys : List Int}, xs.Pairwise (· < ·) → ys.Pairwise (· < ·) → (∀ k, k ∈ xs ↔ k ∈ ys) → xs = ys
  | [], [], _, _, _ => rfl
  | [], y :: ys, _, _, h => absurd ((h y).mpr List.mem_cons_self) (by simp)
  | x :: xs, [], _, _, h => absurd ((h x).mp List.mem_cons_self) (by simp)
  | x :: xs, y :: ys, hx, hy, h => by
    rw [List.pairwise_cons] at hx hy
    have e : x = y := by
      have h1 : x ∈ y :: ys := (h x).mp List.mem_cons_self
      have h2 : y ∈ x :: xs := (h y).mpr List.mem_cons_self
      rcases List.mem_cons.mp h1 with z | z
      · exact z
      · rcases List.mem_cons.mp h2 with z2 | z2
        · exact z2.symm
        · have a := hy.1 x z
          have b := hx.1 y z2
          omega
    subst e
    congr 1
    refine rise_eq hx.2 hy.2 fun k => ?_
    constructor
    · intro hk
      rcases List.mem_cons.mp ((h k).mp (List.mem_cons_of_mem _ hk)) with z | z
      · have := hx.1 k hk
        omega
      · exact z
    · intro hk
      rcases List.mem_cons.mp ((h k).mpr (List.mem_cons_of_mem _ hk)) with z | z
      · have := hy.1 k hk
        omega
      · exact z
theorem rise_dec {xs ns : List Int} (h1 : ns.Pairwise (· < ·)) (h2 : ∀ k, k ∈ ns ↔ k ∈ xs) : decide (xs = ns) = decide (xs.Pairwise (· < ·)) := by
  rw [Bool.eq_iff_iff, decide_eq_true_iff, decide_eq_true_iff]
  constructor
  · intro e; rw [e]; exact h1
  · intro h; exact rise_eq h h1 fun k => (h2 k).symm
theorem rise_len : ∀ {xs : List Int} {a b : Int}, xs.Pairwise (· < ·) → (∀ x ∈ xs, a ≤ x ∧ x < b) → a ≤ b → xs.length ≤ (b - a).toNat
  | [], _, _, _, _, _ => Nat.zero_le _
  | x :: xs, a, b, h, h2, hab => by
    rw [List.pairwise_cons] at h
    have hx := h2 x List.mem_cons_self
    have ih := rise_len (xs := xs) (a := x + 1) (b := b) h.2 (fun y hy => ⟨by have := h.1 y hy; omega, (h2 y (List.mem_cons_of_mem _ hy)).2⟩) (by omega)
    rw [List.length_cons]
    omega
theorem areMarks_iff {xs : List Int} {n : Int} : areMarks xs n = true ↔ xs.Pairwise (· < ·) ∧ ∀ x ∈ xs, 0 ≤ x ∧ x < n := by
  unfold areMarks
  rw [Bool.and_eq_true, decide_eq_true_iff, List.all_eq_true]
  simp only [Bool.and_eq_true, decide_eq_true_iff]
theorem areMarks_len {xs : List Int} {n : Nat} (h : areMarks xs n = true) : xs.length ≤ n := by
  obtain ⟨h1, h2⟩ := areMarks_iff.mp h
  have := rise_len h1 h2 (by omega)
  omega
theorem isName_len {z : Str} (h : isName z = true) : z.length ≤ 6 := by
  unfold isName at h
  simp only [Bool.and_eq_true, decide_eq_true_iff] at h
  omega
structure GoodD (n : Nat) (before : List Deed) (d : Deed) : Prop where
  nm : isName d.name = true
  fresh : d.name ∉ before.map Deed.name
  c0 : 0 ≤ d.cost
  c1 : d.cost ≤ 99
  nd : areMarks d.needs n = true
  st : areMarks d.sets n = true
  sk : areMarks d.strikes n = true
  apart : ∀ m ∈ d.sets, m ∉ d.strikes
theorem GoodD.is {n : Nat} {before : List Deed} {d : Deed} (h : GoodD n before d) : isDeed d before n = true := by
  unfold isDeed
  rw [h.nm, h.nd, h.st, h.sk, decide_eq_true h.c0, decide_eq_true h.c1, List.contains_eq_mem, decide_eq_false h.fresh]
  simp only [Bool.not_false, Bool.and_self, Bool.true_and, List.all_eq_true]
  intro m hm
  simp [h.apart m hm]
structure GoodY (y : Yard) : Prop where
  m1 : 1 ≤ y.marks.length
  m2 : y.marks.length ≤ 10
  mn : ∀ i z, y.marks[i]? = some z → isName z = true ∧ z ∉ y.marks.take i
  d2 : y.deeds.length ≤ 16
  dd : ∀ i d, y.deeds[i]? = some d → GoodD y.marks.length (y.deeds.take i) d
  b : areMarks y.start y.marks.length = true
  w : areMarks y.wish y.marks.length = true
end K
namespace K
open PySem PySem.Spec PyProof.Rows L2 DL
local macro_rules | `(tactic| walk_at "w") => `(tactic| conv => whnf)
local macro_rules | `(tactic| walk_at "side") => `(tactic| first | rfl | exact True.intro | assumption | exact shal_nil | exact shal_int | exact shal_bool | exact shal_str | exact flat_ints _ | exact flat_strs _ | omega | exact le_line (Nat.le_of_ble_eq_true rfl))
local macro_rules | `(tactic| walk_at "lc") => `(tactic| first | exact ⟨rfl, fun _ => ⟨rfl, rfl⟩, fun _ => rfl⟩ | exact ⟨rfl, fun _ => ⟨rfl, rfl⟩, fun z => (by cases z)⟩ | exact ⟨fun _ => ⟨rfl, rfl⟩, fun _ => rfl⟩ | exact ⟨fun _ => ⟨rfl, rfl⟩, fun z => (by cases z)⟩)
local macro_rules | `(tactic| walk_at "lch") => `(tactic| first | exact ⟨by simp [*], fun _ => ⟨rfl, rfl⟩, fun _ => rfl⟩ | exact ⟨by simp [*], fun z => (by cases z), fun _ => rfl⟩ | exact ⟨by simp [*], fun _ => ⟨rfl, rfl⟩, fun z => (by cases z)⟩)
local macro_rules | `(tactic| walk_at "go") => `(tactic| (walk_at "w"; repeat ((first | (refine And.intro ?left ?_; (case left => walk_at "side")) | (refine Br.t ?_) | (refine Br.f ?_)); walk_at "w")))
section
variable {P : Program} {w : World} {K : PySem.W.Frag} {mg : Str → Option Value} {base : Heap}
def topS (i : Nat) : Stmt := PySem.Challenge.pw_wishbound_k21_falls_and_tops.main.body.getD i (.Pass ⟨0, 0, 0, 0⟩)
structure Tx (mg : Str → Option Value) : Prop where
  c_MARKS : ∃ t, mg "MARKS" = some (.int 10 t)
  c_DEEDS : ∃ t, mg "DEEDS" = some (.int 16 t)
  c_COST : ∃ t, mg "COST" = some (.int 99 t)
  c_LETTERS : ∃ t, mg "LETTERS" = some (.int 6 t)
  c_SMALL : ∃ t, mg "SMALL" = some (.str "abcdefghijklmnopqrstuvwxyz" t)

end
end K
namespace K
open PySem PySem.Spec PyProof.Rows L2 DL
local macro_rules | `(tactic| walk_at "w") => `(tactic| conv => whnf)
local macro_rules | `(tactic| walk_at "side") => `(tactic| first | rfl | exact True.intro | assumption | exact shal_nil | exact shal_int | exact shal_bool | exact shal_str | exact flat_ints _ | exact flat_strs _ | omega | exact le_line (Nat.le_of_ble_eq_true rfl))
local macro_rules | `(tactic| walk_at "lc") => `(tactic| first | exact ⟨rfl, fun _ => ⟨rfl, rfl⟩, fun _ => rfl⟩ | exact ⟨rfl, fun _ => ⟨rfl, rfl⟩, fun z => (by cases z)⟩ | exact ⟨fun _ => ⟨rfl, rfl⟩, fun _ => rfl⟩ | exact ⟨fun _ => ⟨rfl, rfl⟩, fun z => (by cases z)⟩)
local macro_rules | `(tactic| walk_at "lch") => `(tactic| first | exact ⟨by simp [*], fun _ => ⟨rfl, rfl⟩, fun _ => rfl⟩ | exact ⟨by simp [*], fun z => (by cases z), fun _ => rfl⟩ | exact ⟨by simp [*], fun _ => ⟨rfl, rfl⟩, fun z => (by cases z)⟩)
local macro_rules | `(tactic| walk_at "go") => `(tactic| (walk_at "w"; repeat ((first | (refine And.intro ?left ?_; (case left => walk_at "side")) | (refine Br.t ?_) | (refine Br.f ?_)); walk_at "w")))
section
variable {P : Program} {w : World} {K : PySem.W.Frag} {mg : Str → Option Value} {base : Heap}
abbrev s_is_name : Stmt := topS 9
abbrev N_is_name : List Str := ["name", "sign"]
theorem sc_is_name : FnScope N_is_name ["name"] (defScope s_is_name) := ⟨rfl, rfl, rfl, by decide +kernel, rfl, by decide +kernel, by decide +kernel⟩
def sp_is_name : SpD := fun Γ Q _ => ∃ z : Str, Γ = [.fz (.str z)] ∧ z.length ≤ sizeLine ∧ Q (.fz (.bool (isName z))) Γ
theorem ms_is_name : MonoSp sp_is_name := fun Γ Q Q' E E' h _ ⟨z, e, l, q⟩ => ⟨z, e, l, h _ _ q⟩
theorem ok_is_name {f : Addr} {fd : FuncData} (F : Fun K "is_name" "is_name" s_is_name f fd) (B : Bl mg) (T : Tx mg) : FnOk P w K mg base CX0 1 f fd ["name"] (liftSp K 1 sp_is_name) := by
  refine fnd F sc_is_name 1 rfl ms_is_name (fun X cdv A outer s H E hX hr => ?_)
  subst hX
  have hu := hu64 hr
  refine ⟨_, (pds_one (pd_ret (pd_and (pd_chain od_le od_le pd_int (pd_callB cd_len rfl B.len bt_len (pad_cons (pdv 0) pad_nil)) (pd_gint T.c_LETTERS)) (pd_one (pd_cmp (od_eq hu) (pd_lc [("sign", 1)] rfl sc_is_name.nd (pid_str (pdv 0)) (blkOk_by (N := N_is_name) (sc := defScope s_is_name) (by decide +kernel)) (fun _ _ _ _ _ => pgc_name 1 sc_is_name.nd) (fun _ _ _ _ _ => pbs_one (pb_cmp od_notIn (pdv 1) (pd_gstr T.c_SMALL))) (fun _ _ _ _ _ => (pdv 1))) (pd_lst pad_nil)))))), fun Γ Q E' hl hsp => ?_⟩
  obtain ⟨z, rfl, hz, q⟩ := hsp
  walk_at "go"
  unfold isName at q
  refine ⟨fun h1 => ?_, fun h1 => ?_⟩
  · rw [h1, Bool.true_and] at q
    walk_at "go"
    refine ⟨fun h2 => ?_, fun h2 => ?_⟩
    · rw [h2, Bool.true_and] at q
      walk_at "go"
      intro mc
      refine LcR.signs mc (fun c => !decide (c ∈ small26.cps.toList)) (fun c => .str ⟨#[c]⟩) trivial (fun c hc => ?_) (fun a => ?_)
      · walk_at "w"
        refine ⟨c, rfl, ?_⟩
        walk_at "w"
        exact ⟨rfl, fun _ => ⟨rfl, rfl⟩, fun _ => rfl⟩
      · walk_at "w"
        intro b
        walk_at "go"
        rw [eqv_nil, isEmpty_map, isEmpty_filter]
        simp only [Bool.not_not]
        exact q
    · rw [h2, Bool.false_and] at q
      walk_at "go"
      exact q
  · rw [h1, Bool.false_and] at q
    walk_at "go"
    exact q

end
end K
namespace K
open PySem PySem.Spec PyProof.Rows L2 DL
local macro_rules | `(tactic| walk_at "w") => `(tactic| conv => whnf)
local macro_rules | `(tactic| walk_at "side") => `(tactic| first | rfl | exact True.intro | assumption | exact shal_nil | exact shal_int | exact shal_bool | exact shal_str | exact flat_ints _ | exact flat_strs _ | omega | exact le_line (Nat.le_of_ble_eq_true rfl))
local macro_rules | `(tactic| walk_at "lc") => `(tactic| first | exact ⟨rfl, fun _ => ⟨rfl, rfl⟩, fun _ => rfl⟩ | exact ⟨rfl, fun _ => ⟨rfl, rfl⟩, fun z => (by cases z)⟩ | exact ⟨fun _ => ⟨rfl, rfl⟩, fun _ => rfl⟩ | exact ⟨fun _ => ⟨rfl, rfl⟩, fun z => (by cases z)⟩)
local macro_rules | `(tactic| walk_at "lch") => `(tactic| first | exact ⟨by simp [*], fun _ => ⟨rfl, rfl⟩, fun _ => rfl⟩ | exact ⟨by simp [*], fun z => (by cases z), fun _ => rfl⟩ | exact ⟨by simp [*], fun _ => ⟨rfl, rfl⟩, fun z => (by cases z)⟩)
local macro_rules | `(tactic| walk_at "go") => `(tactic| (walk_at "w"; repeat ((first | (refine And.intro ?left ?_; (case left => walk_at "side")) | (refine Br.t ?_) | (refine Br.f ?_)); walk_at "w")))
section
variable {P : Program} {w : World} {K : PySem.W.Frag} {mg : Str → Option Value} {base : Heap}
abbrev s_are_marks : Stmt := topS 10
abbrev N_are_marks : List Str := ["some", "many", "mark"]
theorem sc_are_marks : FnScope N_are_marks ["some", "many"] (defScope s_are_marks) := ⟨rfl, rfl, rfl, by decide +kernel, rfl, by decide +kernel, by decide +kernel⟩
def sp_are_marks : SpD := fun Γ Q _ => ∃ (xs : List Int) (n : Int), Γ = [.fz (tI xs), .fz (.int n)] ∧ xs.length < 64 ∧ Q (.fz (.bool (areMarks xs n))) Γ
theorem ms_are_marks : MonoSp sp_are_marks := fun Γ Q Q' E E' h _ ⟨z, n, e, l, q⟩ => ⟨z, n, e, l, h _ _ q⟩
theorem ok_are_marks {f : Addr} {fd : FuncData} (F : Fun K "are_marks" "are_marks" s_are_marks f fd) (B : Bl mg) : FnOk P w K mg base CX0 1 f fd ["some", "many"] (liftSp K 2 sp_are_marks) := by
  refine fnd F sc_are_marks 2 rfl ms_are_marks (fun X cdv A outer s H E hX hr => ?_)
  subst hX
  have hu := hu64 hr
  refine ⟨_, (pds_one (pd_ret (pd_and (pd_cmp (od_eq hu) (pd_callTy cd_list rfl B.list bt_list (pad_cons (pdv 0) pad_nil)) (pd_sortSt rfl rfl B.sorted (pst_sc [("mark", 2)] rfl sc_are_marks.nd (pid_seq (pdv 0)) (blkOk_by (N := N_are_marks) (sc := defScope s_are_marks) (by decide +kernel)) (fun _ _ _ _ _ => pgc_name 2 sc_are_marks.nd) (fun _ _ _ _ _ => pbs_nil) (fun _ _ _ _ _ => (pdv 2))))) (pd_one (pd_cmp (od_eq hu) (pd_lc [("mark", 2)] rfl sc_are_marks.nd (pid_seq (pdv 0)) (blkOk_by (N := N_are_marks) (sc := defScope s_are_marks) (by decide +kernel)) (fun _ _ _ _ _ => pgc_name 2 sc_are_marks.nd) (fun _ _ _ _ _ => pbs_one (pb_not (pb_chain od_le od_lt pd_int (pdv 2) (pdv 1)))) (fun _ _ _ _ _ => (pdv 2))) (pd_lst pad_nil)))))), fun Γ Q E' hl hsp => ?_⟩
  obtain ⟨xs, n, rfl, hz, q⟩ := hsp
  walk_at "w"
  intro p1
  walk_at "w"
  intro mc
  refine ScR.ints mc (fun _ => true) id trivial (by omega) (fun x hx => ?_) (fun ys h1 h2 => ?_)
  · walk_at "w"
    exact ⟨rfl, fun _ => ⟨rfl, rfl⟩, fun h => by cases h⟩
  · refine ⟨by omega, fun ns n1 n2 p2 => ?_⟩
    walk_at "w"
    refine ⟨.inl (depth_lI _), ?_⟩
    rw [eqv_lI, rise_dec (xs := xs) n1 (fun k => by rw [n2, h1]; simp)]
    unfold areMarks at q
    walk_at "go"
    refine ⟨fun h1 => ?_, fun h1 => ?_⟩
    · rw [h1, Bool.true_and] at q
      walk_at "go"
      intro mc2
      refine LcR.ints mc2 (fun m => !(decide (0 ≤ m) && decide (m < n))) .int trivial (fun x hx => ?_) (fun a => ?_)
      · walk_at "go"
        refine ⟨fun h2 => ?_, fun h2 => ?_⟩
        · walk_at "go"
          rw [h2, Bool.true_and]
          exact ⟨rfl, fun _ => ⟨rfl, rfl⟩, fun _ => rfl⟩
        · walk_at "w"
          rw [h2, Bool.false_and]
          exact ⟨rfl, fun _ => ⟨rfl, rfl⟩, fun _ => rfl⟩
      · walk_at "w"
        intro b
        walk_at "go"
        rw [eqv_nil, isEmpty_map, isEmpty_filter]
        simp only [Bool.not_not]
        exact q
    · rw [h1, Bool.false_and] at q
      walk_at "go"
      exact q

end
end K
namespace K
open PySem PySem.Spec PyProof.Rows L2 DL
local macro_rules | `(tactic| walk_at "w") => `(tactic| conv => whnf)
local macro_rules | `(tactic| walk_at "side") => `(tactic| first | rfl | exact True.intro | assumption | exact shal_nil | exact shal_int | exact shal_bool | exact shal_str | exact flat_ints _ | exact flat_strs _ | omega | exact le_line (Nat.le_of_ble_eq_true rfl))
local macro_rules | `(tactic| walk_at "lc") => `(tactic| first | exact ⟨rfl, fun _ => ⟨rfl, rfl⟩, fun _ => rfl⟩ | exact ⟨rfl, fun _ => ⟨rfl, rfl⟩, fun z => (by cases z)⟩ | exact ⟨fun _ => ⟨rfl, rfl⟩, fun _ => rfl⟩ | exact ⟨fun _ => ⟨rfl, rfl⟩, fun z => (by cases z)⟩)
local macro_rules | `(tactic| walk_at "lch") => `(tactic| first | exact ⟨by simp [*], fun _ => ⟨rfl, rfl⟩, fun _ => rfl⟩ | exact ⟨by simp [*], fun z => (by cases z), fun _ => rfl⟩ | exact ⟨by simp [*], fun _ => ⟨rfl, rfl⟩, fun z => (by cases z)⟩)
local macro_rules | `(tactic| walk_at "go") => `(tactic| (walk_at "w"; repeat ((first | (refine And.intro ?left ?_; (case left => walk_at "side")) | (refine Br.t ?_) | (refine Br.f ?_)); walk_at "w")))
section
variable {P : Program} {w : World} {K : PySem.W.Frag} {mg : Str → Option Value} {base : Heap}
abbrev s_is_deed : Stmt := topS 11
abbrev N_is_deed : List Str := ["deed", "ahead", "many", "name", "needs", "sets", "strikes", "cost", "other", "mark"]
theorem sc_is_deed : FnScope N_is_deed ["deed", "ahead", "many"] (defScope s_is_deed) := ⟨rfl, rfl, rfl, by decide +kernel, rfl, by decide +kernel, by decide +kernel⟩
def sp_is_deed : SpD := fun Γ Q _ => ∃ (d : Deed) (before : List Deed) (n : Int), Γ = [.fz (dD d), .fz (.tuple (before.map dD)), .fz (.int n)] ∧ d.name.length ≤ sizeLine ∧ d.needs.length < 64 ∧ d.sets.length < 64 ∧ d.strikes.length < 64 ∧ Q (.fz (.bool (isDeed d before n))) Γ
theorem ms_is_deed : MonoSp sp_is_deed := fun Γ Q Q' E E' h _ ⟨d, a, n, e, l1, l2, l3, l4, q⟩ => ⟨d, a, n, e, l1, l2, l3, l4, h _ _ q⟩
theorem ok_is_deed {f : Addr} {fd : FuncData} (F : Fun K "is_deed" "is_deed" s_is_deed f fd) (B : Bl mg) (T : Tx mg) (D_is_name : DefOk P w K mg base 1 "is_name" ["name"] 1 sp_is_name) (D_are_marks : DefOk P w K mg base 1 "are_marks" ["some", "many"] 2 sp_are_marks) :
    FnOk P w K mg base CX0 2 f fd ["deed", "ahead", "many"] (liftSp K 3 sp_is_deed) := by
  refine fnd F sc_is_deed 3 rfl ms_is_deed (fun X cdv A outer s H E hX hr => ?_)
  subst hX
  have hu := hu64 hr
  refine ⟨_, (pds_cons (pd_asg (pdv 0) (pgd_tup rfl (pgsd_cons (pgd_name 3 sc_is_deed.nd) (pgsd_cons (pgd_name 4 sc_is_deed.nd) (pgsd_cons (pgd_name 5 sc_is_deed.nd) (pgsd_cons (pgd_name 6 sc_is_deed.nd) (pgsd_cons (pgd_name 7 sc_is_deed.nd) pgsd_nil)))))))
 (pds_cons (pd_if (PBW.pb (pbw_or (pb_not (pb_val (pd_def D_is_name hr (pad_cons (pdv 3) pad_nil)))) (pbw_or (pb_cmp od_in (pdv 3) (pd_lc [("other", 8)] rfl sc_is_deed.nd (pid_seq (pdv 1)) (blkOk_by (N := N_is_deed) (sc := defScope s_is_deed) (by decide +kernel)) (fun _ _ _ _ _ => pgc_name 8 sc_is_deed.nd) (fun _ _ _ _ _ => pbs_nil) (fun _ _ _ _ _ => (pd_ix (pdv 8) pd_int)))) (pbw_or1 (pb_not (pb_chain od_le od_le pd_int (pdv 7) (pd_gint T.c_COST))))))) (pds_one (pd_ret pd_bl)) pds_nil)
 (pds_cons (pd_if (PBW.pb (pbw_or (pb_not (pb_val (pd_def D_are_marks hr (pad_cons (pdv 4) (pad_cons (pdv 2) pad_nil))))) (pbw_or (pb_not (pb_val (pd_def D_are_marks hr (pad_cons (pdv 5) (pad_cons (pdv 2) pad_nil))))) (pbw_or1 (pb_not (pb_val (pd_def D_are_marks hr (pad_cons (pdv 6) (pad_cons (pdv 2) pad_nil))))))))) (pds_one (pd_ret pd_bl)) pds_nil)
 (pds_one (pd_ret (pd_cmp (od_eq hu) (pd_lc [("mark", 9)] rfl sc_is_deed.nd (pid_seq (pdv 5)) (blkOk_by (N := N_is_deed) (sc := defScope s_is_deed) (by decide +kernel)) (fun _ _ _ _ _ => pgc_name 9 sc_is_deed.nd) (fun _ _ _ _ _ => pbs_one (pb_cmp od_in (pdv 9) (pdv 6))) (fun _ _ _ _ _ => (pdv 9))) (pd_lst pad_nil))))))), fun Γ Q E' hl hsp => ?_⟩
  obtain ⟨d, before, n, rfl, l1, l2, l3, l4, q⟩ := hsp
  -- an answer «no»
  have no : isDeed d before n = false → Q (.fz (.bool false)) [.fz (dD d), .fz (.tuple (before.map dD)), .fz (.int n)] := fun e => by rw [e] at q; exact q
  unfold isDeed at q no
  walk_at "go"
  refine ⟨d.name, rfl, l1, ?_⟩
  walk_at "go"
  refine ⟨fun h1 => ?_, fun h1 => ?_⟩
  · walk_at "go"
    exact no (by rw [show isName d.name = false by simpa using h1]; simp)
  have h1 : isName d.name = true := by simpa using h1
  rw [h1] at q no
  walk_at "w"
  intro mc
  refine LcR.of (enc := dD) mc (fun _ => true) (fun x => .str x.name) trivial (fun x hx => ?_) (fun a => ?_)
  · walk_at "w"
    walk_at "lc"
  rw [filt_true, show before.map (fun x => PyData.str x.name) = (before.map Deed.name).map .str by rw [List.map_map]; rfl]
  walk_at "go"
  rw [isIn_strs]
  refine ⟨fun h2 => ?_, fun h2 => ?_⟩
  · walk_at "go"
    exact no (by rw [show ((before.map Deed.name).contains d.name) = true by rw [List.contains_eq_mem]; exact h2]; simp)
  have h2' : ((before.map Deed.name).contains d.name) = false := by
    rw [List.contains_eq_mem]
    exact h2
  rw [h2'] at q no
  walk_at "go"
  -- not 0 <= cost <= COST
  refine ⟨fun h3 => ?_, fun h3 => ?_⟩
  case refine_2 =>
    walk_at "go"
    exact no (by rw [h3]; simp)
  rw [h3] at q no
  walk_at "go"
  refine ⟨fun h4 => ?_, fun h4 => ?_⟩
  · walk_at "go"
    exact no (by rw [show decide (d.cost ≤ 99) = false by simpa using h4]; simp)
  rw [show decide (d.cost ≤ 99) = true by simpa using h4] at q no
  walk_at "go"
  refine ⟨_, _, rfl, l2, ?_⟩
  walk_at "go"
  refine ⟨fun h5 => ?_, fun h5 => ?_⟩
  · walk_at "go"
    exact no (by rw [show areMarks d.needs n = false by simpa using h5]; simp)
  rw [show areMarks d.needs n = true by simpa using h5] at q no
  walk_at "go"
  refine ⟨_, _, rfl, l3, ?_⟩
  walk_at "go"
  refine ⟨fun h6 => ?_, fun h6 => ?_⟩
  · walk_at "go"
    exact no (by rw [show areMarks d.sets n = false by simpa using h6]; simp)
  rw [show areMarks d.sets n = true by simpa using h6] at q no
  walk_at "go"
  refine ⟨_, _, rfl, l4, ?_⟩
  walk_at "go"
  refine ⟨fun h7 => ?_, fun h7 => ?_⟩
  · walk_at "go"
    exact no (by rw [show areMarks d.strikes n = false by simpa using h7]; simp)
  rw [show areMarks d.strikes n = true by simpa using h7] at q no
  walk_at "w"
  intro mc2
  refine LcR.ints mc2 (fun m => decide (m ∈ d.strikes)) .int trivial (fun x hx => ?_) (fun a => ?_)
  · walk_at "go"
    rw [isIn_ints]
    walk_at "lc"
  · walk_at "w"
    intro b
    walk_at "go"
    rw [eqv_nil, isEmpty_map, isEmpty_filter]
    exact q

end
end K
namespace K
open PySem PySem.Spec PyProof.Rows L2 DL
local macro_rules | `(tactic| walk_at "w") => `(tactic| conv => whnf)
local macro_rules | `(tactic| walk_at "side") => `(tactic| first | rfl | exact True.intro | assumption | exact shal_nil | exact shal_int | exact shal_bool | exact shal_str | exact flat_ints _ | exact flat_strs _ | omega | exact le_line (Nat.le_of_ble_eq_true rfl))
local macro_rules | `(tactic| walk_at "lc") => `(tactic| first | exact ⟨rfl, fun _ => ⟨rfl, rfl⟩, fun _ => rfl⟩ | exact ⟨rfl, fun _ => ⟨rfl, rfl⟩, fun z => (by cases z)⟩ | exact ⟨fun _ => ⟨rfl, rfl⟩, fun _ => rfl⟩ | exact ⟨fun _ => ⟨rfl, rfl⟩, fun z => (by cases z)⟩)
local macro_rules | `(tactic| walk_at "lch") => `(tactic| first | exact ⟨by simp [*], fun _ => ⟨rfl, rfl⟩, fun _ => rfl⟩ | exact ⟨by simp [*], fun z => (by cases z), fun _ => rfl⟩ | exact ⟨by simp [*], fun _ => ⟨rfl, rfl⟩, fun z => (by cases z)⟩)
local macro_rules | `(tactic| walk_at "go") => `(tactic| (walk_at "w"; repeat ((first | (refine And.intro ?left ?_; (case left => walk_at "side")) | (refine Br.t ?_) | (refine Br.f ?_)); walk_at "w")))
section
variable {P : Program} {w : World} {K : PySem.W.Frag} {mg : Str → Option Value} {base : Heap}
abbrev s_need_yard : Stmt := topS 12
abbrev N_need_yard : List Str := ["yard", "marks", "deeds", "begin", "wish", "at", "name", "deed", "word", "some"]
theorem sc_need_yard : FnScope N_need_yard ["yard"] (defScope s_need_yard) := ⟨rfl, rfl, rfl, by decide +kernel, rfl, by decide +kernel, by decide +kernel⟩
/-- of good yards alone: nothing is refused -/
def sp_need : SpD := fun Γ Q _ => ∃ y : Yard, Γ = [.fz (yD y)] ∧ GoodY y ∧ Q (.fz .none) Γ
theorem ms_need : MonoSp sp_need := fun Γ Q Q' E E' h _ ⟨y, e, g, q⟩ => ⟨y, e, g, h _ _ q⟩
theorem ok_need_yard {f : Addr} {fd : FuncData} (F : Fun K "need_yard" "need_yard" s_need_yard f fd) (B : Bl mg) (T : Tx mg) (D_is_name : DefOk P w K mg base 1 "is_name" ["name"] 1 sp_is_name) (D_are_marks : DefOk P w K mg base 1 "are_marks" ["some", "many"] 2 sp_are_marks)
    (D_is_deed : DefOk P w K mg base 2 "is_deed" ["deed", "ahead", "many"] 3 sp_is_deed) : FnOk P w K mg base CX0 3 f fd ["yard"] (liftSp K 1 sp_need) := by
  refine fnd F sc_need_yard 1 rfl ms_need (fun X cdv A outer s H E hX hr => ?_)
  subst hX
  have hu := hu64 hr
  refine ⟨_, (pds_cons (pd_asg (pdv 0) (pgd_tup rfl (pgsd_cons (pgd_name 1 sc_need_yard.nd) (pgsd_cons (pgd_name 2 sc_need_yard.nd) (pgsd_cons (pgd_name 3 sc_need_yard.nd) (pgsd_cons (pgd_name 4 sc_need_yard.nd) pgsd_nil))))))
 (pds_cons (pd_if (pb_not (pb_chain od_le od_le pd_int (pd_callB cd_len rfl B.len bt_len (pad_cons (pdv 1) pad_nil)) (pd_gint T.c_MARKS))) (pds_one pd_never) pds_nil)
 (pds_cons (pd_for PassesOwn.never rfl (pid_enumT rfl B.enumerate (pdv 1)) (pgd_tup rfl (pgsd_cons (pgd_name 5 sc_need_yard.nd) (pgsd_cons (pgd_name 6 sc_need_yard.nd) pgsd_nil))) (pds_one (pd_if (PBW.pb (pbw_or (pb_not (pb_val (pd_def D_is_name hr (pad_cons (pdv 6) pad_nil)))) (pbw_or1 (pb_cmp od_in (pdv 6) (pd_slice (pdv 1) pod_none (pod_some (pdv 5))))))) (pds_one pd_never) pds_nil)))
 (pds_cons (pd_if (pb_cmp od_gt (pd_callB cd_len rfl B.len bt_len (pad_cons (pdv 2) pad_nil)) (pd_gint T.c_DEEDS)) (pds_one pd_never) pds_nil)
 (pds_cons (pd_for PassesOwn.never rfl (pid_enumT rfl B.enumerate (pdv 2)) (pgd_tup rfl (pgsd_cons (pgd_name 5 sc_need_yard.nd) (pgsd_cons (pgd_name 7 sc_need_yard.nd) pgsd_nil))) (pds_one (pd_if (pb_not (pb_val (pd_def D_is_deed hr (pad_cons (pdv 7) (pad_cons (pd_fz (pd_slice (pdv 2) pod_none (pod_some (pdv 5)))) (pad_cons (pd_callB cd_len rfl B.len bt_len (pad_cons (pdv 1) pad_nil)) pad_nil)))))) (pds_one pd_never) pds_nil)))
 (pds_one (pd_for PassesOwn.never rfl (pid_seq (pd_fz (pd_lst (pad_cons (pd_tup (pad_cons (pd_str) (pad_cons (pdv 3) pad_nil))) (pad_cons (pd_tup (pad_cons (pd_str) (pad_cons (pdv 4) pad_nil))) pad_nil))))) (pgd_tup rfl (pgsd_cons (pgd_name 8 sc_need_yard.nd) (pgsd_cons (pgd_name 9 sc_need_yard.nd) pgsd_nil))) (pds_one (pd_if (pb_not (pb_val (pd_def D_are_marks hr (pad_cons (pdv 9) (pad_cons (pd_callB cd_len rfl B.len bt_len (pad_cons (pdv 1) pad_nil)) pad_nil))))) (pds_one pd_never) pds_nil))))))))), fun Γ Q E' hl hsp => ?_⟩
  obtain ⟨y, rfl, g, q⟩ := hsp
  have gm1 := g.m1
  have gm2 := g.m2
  have gd2 := g.d2
  walk_at "go"
  rw [List.length_map]
  rw [show decide ((1 : Int) ≤ (y.marks.length : Int)) = true by rw [decide_eq_true_iff]; omega]
  walk_at "go"
  rw [show decide ((y.marks.length : Int) ≤ 10) = true by rw [decide_eq_true_iff]; omega]
  walk_at "go"
  intro mf
  refine ForR.ix (fun _ Γ => ∃ a b, Γ = [.fz (yD y), .fz (.tuple (y.marks.map .str)), .fz (.tuple (y.deeds.map dD)), .fz (tI y.start), .fz (tI y.wish), a, b, .no, .no, .no]) ⟨_, _, rfl⟩ (fun _ _ _ _ => trivial) (fun i d Γ ed hi => ?_) (fun Γ hi => ?_)
  · obtain ⟨a, b, rfl⟩ := hi
    obtain ⟨d', e1, rfl⟩ := enum0 ed
    obtain ⟨z, e2, rfl⟩ := map_at e1
    obtain ⟨n1, n2⟩ := g.mn i z e2
    walk_at "go"
    refine ⟨z, rfl, Nat.le_trans (isName_len n1) (le_line (by decide)), ?_⟩
    walk_at "go"
    rw [n1]
    walk_at "w"
    refine Br.f ?_
    walk_at "w"
    refine ⟨rfl, ?_, ?_⟩
    · rw [cut_to, ← List.map_take]; exact flat_strs _
    rw [cut_to, ← List.map_take, isIn_strs, decide_eq_false n2]
    walk_at "go"
    exact ⟨_, _, rfl⟩
  obtain ⟨a, b, rfl⟩ := hi
  walk_at "go"
  rw [List.length_map, show decide ((16 : Int) < (y.deeds.length : Int)) = false by rw [decide_eq_false_iff_not]; omega]
  walk_at "go"
  intro mf2
  refine ForR.ix (fun _ Γ => ∃ a b c, Γ = [.fz (yD y), .fz (.tuple (y.marks.map .str)), .fz (.tuple (y.deeds.map dD)), .fz (tI y.start), .fz (tI y.wish), a, b, c, .no, .no]) ⟨_, _, _, rfl⟩ (fun _ _ _ _ => trivial) (fun i d Γ ed hi => ?_) (fun Γ hi => ?_)
  · obtain ⟨a, b, c, rfl⟩ := hi
    obtain ⟨d', e1, rfl⟩ := enum0 ed
    obtain ⟨z, e2, rfl⟩ := map_at e1
    have gz := g.dd i z e2
    have k1 := areMarks_len gz.nd
    have k2 := areMarks_len gz.st
    have k3 := areMarks_len gz.sk
    walk_at "go"
    rw [cut_to, ← List.map_take, List.length_map]
    refine ⟨z, _, _, rfl, Nat.le_trans (isName_len gz.nm) (le_line (by decide)), by omega, by omega, by omega, ?_⟩
    rw [gz.is]
    walk_at "go"
    exact ⟨_, _, _, rfl⟩
  obtain ⟨a, b, c, rfl⟩ := hi
  walk_at "w"
  intro p
  walk_at "w"
  intro mf3
  refine ForR.ix (fun _ Γ => ∃ u v, Γ = [.fz (yD y), .fz (.tuple (y.marks.map .str)), .fz (.tuple (y.deeds.map dD)), .fz (tI y.start), .fz (tI y.wish), a, b, c, u, v]) ⟨_, _, rfl⟩ (fun _ _ _ _ => trivial) (fun i d Γ ed hi => ?_) (fun Γ hi => ?_)
  · obtain ⟨u, v, rfl⟩ := hi
    have k1 := areMarks_len g.b
    have k2 := areMarks_len g.w
    match i, ed with
    | 0, ed =>
      cases (Option.some.inj ed)
      walk_at "go"
      rw [List.length_map]
      refine ⟨_, _, rfl, by omega, ?_⟩
      rw [g.b]
      walk_at "go"
      exact ⟨_, _, rfl⟩
    | 1, ed =>
      cases (Option.some.inj ed)
      walk_at "go"
      rw [List.length_map]
      refine ⟨_, _, rfl, by omega, ?_⟩
      rw [g.w]
      walk_at "go"
      exact ⟨_, _, rfl⟩
    | i + 2, ed => cases ed
  obtain ⟨u, v, rfl⟩ := hi
  exact q

end
end K
/-! M1: marks that come about if nothing is struck. -/
namespace K
open PySem DL
inductive Comes (b : List Int) (ds : List Deed) (lo : List Int) : Int → Prop
  | start {m : Int} : m ∈ b → Comes b ds lo m
  | deed {k : Nat} {d : Deed} {m : Int} : ds[k]? = some d → ((k : Nat) : Int) ∉ lo → (∀ n, n ∈ d.needs → Comes b ds lo n) → m ∈ d.sets → Comes b ds lo m
theorem rise_filter {xs : List Int} (p : Int → Bool) (h : xs.Pairwise (· < ·)) : (xs.filter p).Pairwise (· < ·) := List.Pairwise.filter p h
theorem rise_lt {xs ys : List Int} (hx : xs.Pairwise (· < ·)) (hy : ys.Pairwise (· < ·)) (sub : ∀ x ∈ xs, x ∈ ys) {y : Int} (h1 : y ∈ ys) (h2 : y ∉ xs) : xs.length < ys.length := by
  have e : xs = ys.filter fun z => decide (z ∈ xs) := rise_eq hx (rise_filter _ hy) fun k => by
    rw [List.mem_filter, decide_eq_true_iff]
    exact ⟨fun h => ⟨sub k h, h⟩, fun h => h.2⟩
  rw [e]
  exact List.length_filter_lt_length_iff_exists.mpr ⟨y, h1, by simpa using h2⟩
theorem rise_le {xs ys : List Int} (hx : xs.Pairwise (· < ·)) (hy : ys.Pairwise (· < ·)) (sub : ∀ x ∈ xs, x ∈ ys) : xs.length ≤ ys.length := by
  have e : xs = ys.filter fun z => decide (z ∈ xs) := rise_eq hx (rise_filter _ hy) fun k => by
    rw [List.mem_filter, decide_eq_true_iff]
    exact ⟨fun h => ⟨sub k h, h⟩, fun h => h.2⟩
  rw [e]
  exact List.length_filter_le _ _
/-- a rising list of marks between what stands at first and what comes about -/
structure OkR (n : Nat) (b : List Int) (ds : List Deed) (lo : List Int) (R : List Int) : Prop where
  up : R.Pairwise (· < ·)
  rg : ∀ x ∈ R, 0 ≤ x ∧ x < (n : Int)
  lo' : ∀ x ∈ b, x ∈ R
  hi : ∀ x ∈ R, Comes b ds lo x
theorem OkR.len {n : Nat} {b : List Int} {ds : List Deed} {lo R : List Int} (h : OkR n b ds lo R) : R.length ≤ n := by
  have := rise_len h.up h.rg (by omega)
  omega
/-- nothing more comes by the deeds ahead of the i-th -/
def ClosedTo (i : Nat) (ds : List Deed) (lo R : List Int) : Prop := ∀ (k : Nat) d, k < i → ds[k]? = some d → ((k : Nat) : Int) ∉ lo → (∀ n, n ∈ d.needs → n ∈ R) → ∀ m, m ∈ d.sets → m ∈ R
theorem comes_closed {b : List Int} {ds : List Deed} {lo R : List Int} (h1 : ∀ x ∈ b, x ∈ R) (h2 : ClosedTo ds.length ds lo R) : ∀ m, Comes b ds lo m → m ∈ R := by
  intro m h
  induction h with
  | start h => exact h1 _ h
  | deed e n _ hm ih => exact h2 _ _ (List.getElem?_eq_some_iff.mp e).1 e n ih _ hm
theorem OkR.step {n : Nat} {b : List Int} {ds : List Deed} {lo R ns : List Int} {k : Nat} {d : Deed} (h : OkR n b ds lo R) (e : ds[k]? = some d) (hk : ((k : Nat) : Int) ∉ lo) (hn : ∀ m, m ∈ d.needs → m ∈ R) (hs : ∀ m ∈ d.sets, 0 ≤ m ∧ m < (n : Int))
    (h1 : ns.Pairwise (· < ·)) (h2 : ∀ m, m ∈ ns ↔ m ∈ R ∨ m ∈ d.sets) : OkR n b ds lo ns := by
  refine ⟨h1, fun x hx => ?_, fun x hx => (h2 x).mpr (.inl (h.lo' x hx)), fun x hx => ?_⟩
  · rcases (h2 x).mp hx with z | z
    · exact h.rg x z
    · exact hs x z
  · rcases (h2 x).mp hx with z | z
    · exact h.hi x z
    · exact .deed e hk (fun m hm => h.hi m (hn m hm)) z
end K
/-! M2: the law's dice. -/
namespace K
open PySem DL L2
/-- the list that draws are made from -/
structure Dice (xs : List Int) : Prop where
  out : ∃ a b rest, xs = a :: b :: rest ∧ (0 ≤ a ∧ a < 2147483647) ∧ 0 ≤ b ∧ (∀ c ∈ rest, 0 ≤ c) ∧ rest.length ≤ 63
theorem Dice.mk' {a b : Int} {rest : List Int} (h1 : 0 ≤ a ∧ a < 2147483647) (h2 : 0 ≤ b) (h3 : ∀ c ∈ rest, 0 ≤ c) (h4 : rest.length ≤ 63) : Dice (a :: b :: rest) := ⟨a, b, rest, rfl, h1, h2, h3, h4⟩
abbrev dc (p : Addr) (xs : List Int) : SV := .ow p (.lst (xs.map .int))
theorem perm_erase {α : Type} : ∀ {l : List α} {i : Nat} (h : i < l.length), (l[i] :: l.eraseIdx i).Perm l
  | a :: l, 0, _ => .refl _
  | a :: l, i + 1, h => .trans (.swap _ _ _) (.cons a (perm_erase (l := l) (i := i) (by simpa using h)))
abbrev L26 : Str := "abcdefghijklmnopqrstuvwxyz"
def rotS (r : Int) : Str := cutS L26 (some r) none ++ cutS L26 none (some r)
def sgn (z : Str) (i : Nat) : Str := ⟨#[z.cps.toList.getD i 0]⟩
def namesOf (z : Str) : List Str :=
  [sgn z 0, sgn z 0 ++ sgn z 1, sgn z 1 ++ sgn z 0, repS (sgn z 2) 6, repS (sgn z 2) 5, cutS z (some 3) (some 9), sgn z 1]
  ++ (cutS z (some 3) (some 12)).cps.toList.map fun c => repS (sgn z 2) 5 ++ ⟨#[c]⟩
theorem names_good : ∀ r : Fin 26, (rotS (r.val : Int)).cps.toList.length = 26 ∧ (namesOf (rotS (r.val : Int))).length = 16 ∧ (namesOf (rotS (r.val : Int))).Nodup ∧ ((namesOf (rotS (r.val : Int))).all isName) = true := by decide +kernel
theorem perm_map {α : Type} {f : α → D} : ∀ {es : List D} {zs : List α}, es.Perm (zs.map f) → ∃ ns : List α, es = ns.map f ∧ ns.Perm zs := by
  have go : ∀ {es fs : List D}, es.Perm fs → ∀ zs : List α, fs = zs.map f → ∃ ns : List α, es = ns.map f ∧ ns.Perm zs := by
    intro es fs h
    induction h with
    | nil => intro zs e; exact ⟨[], rfl, by cases zs with | nil => exact .refl _ | cons a b => cases e⟩
    | cons x h ih =>
      intro zs e
      cases zs with
      | nil => cases e
      | cons z zs =>
        injection e with e1 e2
        subst e1
        obtain ⟨ns, rfl, p⟩ := ih zs e2
        exact ⟨z :: ns, rfl, .cons _ p⟩
    | swap x y l =>
      intro zs e
      match zs, e with
      | a :: b :: zs, e =>
        injection e with e1 e2
        injection e2 with e2 e3
        subst e1 e2 e3
        exact ⟨b :: a :: zs, rfl, .swap _ _ _⟩
    | trans h1 h2 ih1 ih2 =>
      intro zs e
      obtain ⟨ns, rfl, p⟩ := ih2 zs e
      obtain ⟨ms, rfl, p2⟩ := ih1 ns rfl
      exact ⟨ms, rfl, p2.trans p⟩
  intro es zs h
  exact go h zs rfl
def rgI (a b : Int) : List Int := (List.range (b - a).toNat).map fun i => a + ((i : Nat) : Int)
theorem rgD_ints (a b : Int) : rgD a b = (rgI a b).map .int := by unfold rgD rgI; rw [List.map_map]; rfl
theorem rgI_up (a b : Int) : (rgI a b).Pairwise (· < ·) := by
  unfold rgI
  rw [List.pairwise_map]
  exact List.Pairwise.imp (fun h => by omega) List.pairwise_lt_range
theorem rgI_mem {a b x : Int} : x ∈ rgI a b ↔ a ≤ x ∧ x < b := by
  unfold rgI
  rw [List.mem_map]
  constructor
  · rintro ⟨i, h, rfl⟩
    have := List.mem_range.mp h
    omega
  · rintro ⟨h1, h2⟩
    exact ⟨(x - a).toNat, List.mem_range.mpr (by omega), by omega⟩
theorem rgI_len (a b : Int) : (rgI a b).length = (b - a).toNat := by unfold rgI; rw [List.length_map, List.length_range]
theorem nodup_up {xs : List Int} (h : xs.Pairwise (· < ·)) : xs.Nodup := h.imp fun h => by omega
theorem up_of {xs : List Int} (h1 : xs.Pairwise (· ≤ ·)) (h2 : xs.Nodup) : xs.Pairwise (· < ·) := by
  refine (h1.and h2).imp fun h => ?_
  have := h.1
  have := h.2
  omega
theorem map_get? {xs : List Int} {i : Nat} (h : i < xs.length) : (xs.map PyData.int)[i]? = some (.int xs[i]) := by rw [List.getElem?_map, List.getElem?_eq_getElem h]; rfl
theorem map_app (xs : List Int) (x : Int) : xs.map PyData.int ++ [.int x] = (xs ++ [x]).map .int := by simp
theorem map_erase : ∀ (xs : List Int) (i : Nat), (xs.map PyData.int).eraseIdx i = (xs.eraseIdx i).map .int
  | [], _ => rfl
  | _ :: _, 0 => rfl
  | x :: xs, i + 1 => by simp [map_erase xs i]
theorem lt4 {r : Int} (h0 : 0 ≤ r) (h1 : r < 4) : r = 0 ∨ r = 1 ∨ r = 2 ∨ r = 3 := by omega
theorem lt3 {r : Int} (h0 : 0 ≤ r) (h1 : r < 3) : r = 0 ∨ r = 1 ∨ r = 2 := by omega
theorem lt2 {r : Int} (h0 : 0 ≤ r) (h1 : r < 2) : r = 0 ∨ r = 1 := by omega
theorem marks1 {r m : Int} (h0 : 0 ≤ r) (h1 : r < m) : areMarks [r] m = true := areMarks_iff.mpr ⟨List.pairwise_singleton _ _, fun x hx => by rw [List.mem_singleton.mp hx]; exact ⟨h0, h1⟩⟩
theorem cut_sums : ∀ r : Fin 26, (cutS L26 (some (r.val : Int)) none).length + (cutS L26 none (some (r.val : Int))).length ≤ 1000 := by decide +kernel
theorem cut_sum {r : Int} (h0 : 0 ≤ r) (h1 : r < 26) : (cutS L26 (some r) none).length + (cutS L26 none (some r)).length ≤ 1000 := by
  have h := cut_sums ⟨r.toNat, by omega⟩
  have e : ((r.toNat : Nat) : Int) = r := by omega
  simpa only [e] using h
theorem rot26 {r : Int} (h0 : 0 ≤ r) (h1 : r < 26) : ∃ c0 c1 c2 c3 c4 c5 c6 c7 c8 c9 c10 c11 c12 c13 c14 c15 c16 c17 c18 c19 c20 c21 c22 c23 c24 c25 : Nat,
    rotS r = ⟨⟨[c0, c1, c2, c3, c4, c5, c6, c7, c8, c9, c10, c11, c12, c13, c14, c15, c16, c17, c18, c19, c20, c21, c22, c23, c24, c25]⟩⟩ ∧ (namesOf (rotS r)).length = 16 ∧ (namesOf (rotS r)).Nodup ∧ ∀ z ∈ namesOf (rotS r), isName z = true := by
  obtain ⟨h2, h3, h4, h5⟩ := names_good ⟨r.toNat, by omega⟩
  have e : ((r.toNat : Nat) : Int) = r := by omega
  simp only [e] at h2 h3 h4 h5
  generalize hz : rotS r = z at *
  obtain ⟨⟨l⟩⟩ := z
  have hl : l.length = 26 := h2
  match l, hl with
  | [c0, c1, c2, c3, c4, c5, c6, c7, c8, c9, c10, c11, c12, c13, c14, c15, c16, c17, c18, c19, c20, c21, c22, c23, c24, c25], _ => exact ⟨_, _, _, _, _, _, _, _, _, _, _, _, _, _, _, _, _, _, _, _, _, _, _, _, _, _, rfl, h3, h4, List.all_eq_true.mp h5⟩
end K
namespace K
open PySem PySem.Spec PyProof.Rows L2 DL
local macro_rules | `(tactic| walk_at "w") => `(tactic| conv => whnf)
local macro_rules | `(tactic| walk_at "side") => `(tactic| first | rfl | exact True.intro | assumption | exact shal_nil | exact shal_int | exact shal_bool | exact shal_str | exact flat_ints _ | exact flat_strs _ | omega | exact le_line (Nat.le_of_ble_eq_true rfl))
local macro_rules | `(tactic| walk_at "lc") => `(tactic| first | exact ⟨rfl, fun _ => ⟨rfl, rfl⟩, fun _ => rfl⟩ | exact ⟨rfl, fun _ => ⟨rfl, rfl⟩, fun z => (by cases z)⟩ | exact ⟨fun _ => ⟨rfl, rfl⟩, fun _ => rfl⟩ | exact ⟨fun _ => ⟨rfl, rfl⟩, fun z => (by cases z)⟩)
local macro_rules | `(tactic| walk_at "lch") => `(tactic| first | exact ⟨by simp [*], fun _ => ⟨rfl, rfl⟩, fun _ => rfl⟩ | exact ⟨by simp [*], fun z => (by cases z), fun _ => rfl⟩ | exact ⟨by simp [*], fun _ => ⟨rfl, rfl⟩, fun z => (by cases z)⟩)
local macro_rules | `(tactic| walk_at "go") => `(tactic| (walk_at "w"; repeat ((first | (refine And.intro ?left ?_; (case left => walk_at "side")) | (refine Br.t ?_) | (refine Br.f ?_)); walk_at "w")))
section
variable {P : Program} {w : World} {K : PySem.W.Frag} {mg : Str → Option Value} {base : Heap}
abbrev s__law_dice : Stmt := topS 19
abbrev N__law_dice : List Str := ["_law_script", "_law_k", "_law_found", "_law_cell"]
theorem sc__law_dice : FnScope N__law_dice ["_law_script", "_law_k"] (defScope s__law_dice) := ⟨rfl, rfl, rfl, by decide +kernel, rfl, by decide +kernel, by decide +kernel⟩
def sp_dice : SpD := fun Γ Q _ => ∃ (ns : List Int) (k : Int), Γ = [.fz (lI ns), .fz (.int k)] ∧ ns.length ≤ 63 ∧ (0 ≤ k ∧ k < 1000) ∧ ∀ p xs, Dice xs → Q (dc p xs) Γ
theorem ms_dice : MonoSp sp_dice := fun Γ Q Q' E E' h _ ⟨y, k, e, g, g2, q⟩ => ⟨y, k, e, g, g2, fun p xs d => h _ _ (q p xs d)⟩
theorem ok_dice {f : Addr} {fd : FuncData} (F : Fun K "_law_dice" "_law_dice" s__law_dice f fd) (B : Bl mg) : FnOk P w K mg base CX0 1 f fd ["_law_script", "_law_k"] (liftSp K 2 sp_dice) := by
  refine fnd F sc__law_dice 2 rfl ms_dice (fun X cdv A outer s H E hX hr => ?_)
  subst hX
  have hu := hu64 hr
  refine ⟨_, (pds_cons (pd_set 2 (pdv 1) sc__law_dice.nd)
 (pds_cons (pd_for PassesOwn.never rfl (pid_seq (pdv 0)) (pgd_name 3 sc__law_dice.nd) (pds_one (pd_set 2 (pd_op od_mod (pd_op od_add (pd_op od_mul (pdv 2) pd_int) (pd_callB cd_abs rfl B.abs bt_abs (pad_cons (pdv 3) pad_nil))) pd_int) sc__law_dice.nd)))
 (pds_one (pd_ret (pd_op od_add (pd_lst (pad_cons (pdv 2) (pad_cons pd_int pad_nil))) (pd_lc [("_law_cell", 3)] rfl sc__law_dice.nd (pid_seq (pdv 0)) (blkOk_by (N := N__law_dice) (sc := defScope s__law_dice) (by decide +kernel)) (fun _ _ _ _ _ => pgc_name 3 sc__law_dice.nd) (fun _ _ _ _ _ => pbs_one (pb_cmp od_ge (pdv 3) (pd_op od_pow pd_int pd_int))) (fun _ _ _ _ _ => (pdv 3)))))))), fun Γ Q E' hl hsp => ?_⟩
  obtain ⟨ns, k, rfl, g, ⟨k0, k1⟩, q⟩ := hsp
  walk_at "go"
  intro mf
  refine ForR.ix (fun i Γ => ∃ (a : Int) (c : SV), Γ = [.fz (lI ns), .fz (.int k), .fz (.int a), c] ∧ 0 ≤ a ∧ a < 2147483647) ⟨k, _, rfl, k0, by omega⟩ (fun _ _ _ _ => trivial) (fun i d Γ ed hi => ?_) (fun Γ hi => ?_)
  · obtain ⟨a, c, rfl, h0, h1⟩ := hi
    obtain ⟨v, e1, rfl⟩ := map_at ed
    walk_at "w"
    refine ⟨.inr (by omega), ?_⟩
    walk_at "go"
    refine ⟨_, _, rfl, Int.emod_nonneg _ (by decide), Int.emod_lt_of_pos _ (by decide)⟩
  · obtain ⟨a, c, rfl, h0, h1⟩ := hi
    walk_at "w"
    intro p
    walk_at "w"
    intro mc
    refine LcR.ints mc (fun v => decide ((10 : Int) ^ (18 : Int).toNat ≤ v)) .int trivial (fun v hv => ?_) (fun b => ?_)
    · walk_at "w"
      refine ⟨⟨by decide, by decide, by decide⟩, ?_⟩
      walk_at "go"
      walk_at "lc"
    · walk_at "w"
      refine ⟨?_, ?_⟩
      · have := List.length_filter_le (fun v => decide ((10 : Int) ^ (18 : Int).toNat ≤ v)) ns
        simp only [List.length_cons, List.length_nil, List.length_map]
        exact le_line (by omega)
      · intro b2
        walk_at "w"
        refine ⟨rfl, q b2 (a :: 0 :: (ns.filter fun v => decide ((10 : Int) ^ (18 : Int).toNat ≤ v))) (Dice.mk' ⟨h0, h1⟩ (by decide) (fun c hc => ?_) ?_)⟩
        · have := (List.mem_filter.mp hc).2
          have h2 : (10 : Int) ^ (18 : Int).toNat ≤ c := of_decide_eq_true this
          exact Int.le_trans (by decide) h2
        · exact Nat.le_trans (List.length_filter_le _ _) g

end
end K
namespace K
open PySem PySem.Spec PyProof.Rows L2 DL
local macro_rules | `(tactic| walk_at "w") => `(tactic| conv => whnf)
local macro_rules | `(tactic| walk_at "side") => `(tactic| first | rfl | exact True.intro | assumption | exact shal_nil | exact shal_int | exact shal_bool | exact shal_str | exact flat_ints _ | exact flat_strs _ | omega | exact le_line (Nat.le_of_ble_eq_true rfl))
local macro_rules | `(tactic| walk_at "lc") => `(tactic| first | exact ⟨rfl, fun _ => ⟨rfl, rfl⟩, fun _ => rfl⟩ | exact ⟨rfl, fun _ => ⟨rfl, rfl⟩, fun z => (by cases z)⟩ | exact ⟨fun _ => ⟨rfl, rfl⟩, fun _ => rfl⟩ | exact ⟨fun _ => ⟨rfl, rfl⟩, fun z => (by cases z)⟩)
local macro_rules | `(tactic| walk_at "lch") => `(tactic| first | exact ⟨by simp [*], fun _ => ⟨rfl, rfl⟩, fun _ => rfl⟩ | exact ⟨by simp [*], fun z => (by cases z), fun _ => rfl⟩ | exact ⟨by simp [*], fun _ => ⟨rfl, rfl⟩, fun z => (by cases z)⟩)
local macro_rules | `(tactic| walk_at "go") => `(tactic| (walk_at "w"; repeat ((first | (refine And.intro ?left ?_; (case left => walk_at "side")) | (refine Br.t ?_) | (refine Br.f ?_)); walk_at "w")))
section
variable {P : Program} {w : World} {K : PySem.W.Frag} {mg : Str → Option Value} {base : Heap}
abbrev s__law_off : Stmt := topS 20
abbrev N__law_off : List Str := ["_law_d", "_law_upto", "_law_found"]
theorem sc__law_off : FnScope N__law_off ["_law_d", "_law_upto"] (defScope s__law_off) := ⟨rfl, rfl, rfl, by decide +kernel, rfl, by decide +kernel, by decide +kernel⟩
def sp_off : SpD := fun Γ Q _ => ∃ (p : Addr) (xs : List Int) (u : Int), Γ = [dc p xs, .fz (.int u)] ∧ Dice xs ∧ (0 < u ∧ u < 1073741824) ∧ ∀ r xs', Dice xs' → 0 ≤ r → r < u → Q (.fz (.int r)) [dc p xs', .fz (.int u)]
theorem ms_off : MonoSp sp_off := fun Γ Q Q' E E' h _ ⟨p, xs, u, e, g, g2, q⟩ => ⟨p, xs, u, e, g, g2, fun r xs' d h1 h2 => h _ _ (q r xs' d h1 h2)⟩
theorem ok_off {f : Addr} {fd : FuncData} (F : Fun K "_law_off" "_law_off" s__law_off f fd) (B : Bl mg) : FnOk P w K mg base CX0 1 f fd ["_law_d", "_law_upto"] (liftSp K 2 sp_off) := by
  refine fnd F sc__law_off 2 rfl ms_off (fun X cdv A outer s H E hX hr => ?_)
  subst hX
  have hu := hu64 hr
  refine ⟨_, (pds_cons (pd_if (PBW.pb (pbw_and (pb_cmp (od_eq hu) (pd_ix (pdv 0) pd_int) pd_int) (pbw_and1 (pb_cmp od_gt (pd_callB cd_len rfl B.len bt_len (pad_cons (pdv 0) pad_nil)) pd_int)))) (pds_one (pd_putL 0 (pv 0) pd_int (pd_mt 0 mt_popi PySem.F.plainAttrs_list PySem.F.slot_list_pop PySem.F.type_list_pop (pv 0) (pad_cons pd_int pad_nil)))) pds_nil)
 (pds_cons (pd_if (pb_cmp od_gt (pd_ix (pdv 0) pd_int) pd_int) (pds_cons (pd_set 2 (pd_op od_mod (pd_ix (pdv 0) pd_int) (pdv 1)) sc__law_off.nd)
 (pds_cons (pd_putL 0 (pv 0) pd_int (pd_op od_div (pd_ix (pdv 0) pd_int) (pdv 1)))
 (pds_one (pd_ret (pdv 2))))) pds_nil)
 (pds_cons (pd_putL 0 (pv 0) pd_int (pd_op od_mod (pd_op od_add (pd_op od_mul (pd_ix (pdv 0) pd_int) pd_int) pd_int) pd_int))
 (pds_one (pd_ret (pd_op od_mod (pd_op od_div (pd_ix (pdv 0) pd_int) pd_int) (pdv 1))))))), fun Γ Q E' hl hsp => ?_⟩
  obtain ⟨p, xs, u, rfl, dx, ⟨u0, u1⟩, q⟩ := hsp
  obtain ⟨a, b, rest, rfl, ⟨a0, a1⟩, b0, r0, r1⟩ := dx.out
  walk_at "go"
  rw [eqv_int]
  refine ⟨fun h1 => ?_, fun h1 => ?_⟩
  · walk_at "go"
    cases rest with
    | nil =>
      refine Br.f ?_
      walk_at "go"
      refine ⟨fun h2 => ?_, fun h2 => ?_⟩
      · have h2 : 0 < b := of_decide_eq_true h2
        walk_at "w"
        refine ⟨u0, ?_⟩
        walk_at "w"
        refine ⟨rfl, ?_⟩
        walk_at "w"
        refine ⟨⟨u0, u1⟩, ?_⟩
        walk_at "go"
        exact back_ow (q _ (a :: b / u :: []) (Dice.mk' ⟨a0, a1⟩ (Int.ediv_nonneg b0 (Int.le_of_lt u0)) r0 r1) (Int.emod_nonneg _ (Int.ne_of_gt u0)) (Int.emod_lt_of_pos _ u0))
      · walk_at "w"
        refine ⟨.inr (by omega), ?_⟩
        walk_at "go"
        refine ⟨⟨by decide, by decide⟩, ?_⟩
        walk_at "w"
        refine ⟨u0, ?_⟩
        walk_at "go"
        exact back_ow (q _ ((a * 48271 + 11) % 2147483647 :: b :: []) (Dice.mk' ⟨Int.emod_nonneg _ (by decide), Int.emod_lt_of_pos _ (by decide)⟩ b0 r0 r1) (Int.emod_nonneg _ (Int.ne_of_gt u0)) (Int.emod_lt_of_pos _ u0))
    | cons c rest =>
      refine ⟨fun _ => ?_, fun h => ?_⟩
      · walk_at "go"
        have c0 : 0 ≤ c := r0 c List.mem_cons_self
        have r0' : ∀ z ∈ rest, 0 ≤ z := fun z hz => r0 z (List.mem_cons_of_mem _ hz)
        have r1' : rest.length ≤ 63 := Nat.le_of_succ_le r1
        refine ⟨fun h2 => ?_, fun h2 => ?_⟩
        · have h2 : 0 < c := of_decide_eq_true h2
          walk_at "w"
          refine ⟨u0, ?_⟩
          walk_at "w"
          refine ⟨rfl, ?_⟩
          walk_at "w"
          refine ⟨⟨u0, u1⟩, ?_⟩
          walk_at "go"
          exact back_ow (q _ (a :: c / u :: rest) (Dice.mk' ⟨a0, a1⟩ (Int.ediv_nonneg c0 (Int.le_of_lt u0)) r0' r1') (Int.emod_nonneg _ (Int.ne_of_gt u0)) (Int.emod_lt_of_pos _ u0))
        · walk_at "w"
          refine ⟨.inr (by omega), ?_⟩
          walk_at "go"
          refine ⟨⟨by decide, by decide⟩, ?_⟩
          walk_at "w"
          refine ⟨u0, ?_⟩
          walk_at "go"
          exact back_ow (q _ ((a * 48271 + 11) % 2147483647 :: c :: rest) (Dice.mk' ⟨Int.emod_nonneg _ (by decide), Int.emod_lt_of_pos _ (by decide)⟩ c0 r0' r1') (Int.emod_nonneg _ (Int.ne_of_gt u0)) (Int.emod_lt_of_pos _ u0))
      · exfalso
        have h := of_decide_eq_false h
        simp only [List.length_map, List.length_cons] at h
        omega
  · walk_at "go"
    walk_at "go"
    refine ⟨fun h2 => ?_, fun h2 => ?_⟩
    · have h2 : 0 < b := of_decide_eq_true h2
      walk_at "w"
      refine ⟨u0, ?_⟩
      walk_at "w"
      refine ⟨rfl, ?_⟩
      walk_at "w"
      refine ⟨⟨u0, u1⟩, ?_⟩
      walk_at "go"
      exact back_ow (q _ (a :: b / u :: rest) (Dice.mk' ⟨a0, a1⟩ (Int.ediv_nonneg b0 (Int.le_of_lt u0)) r0 r1) (Int.emod_nonneg _ (Int.ne_of_gt u0)) (Int.emod_lt_of_pos _ u0))
    · walk_at "w"
      refine ⟨.inr (by omega), ?_⟩
      walk_at "go"
      refine ⟨⟨by decide, by decide⟩, ?_⟩
      walk_at "w"
      refine ⟨u0, ?_⟩
      walk_at "go"
      exact back_ow (q _ ((a * 48271 + 11) % 2147483647 :: b :: rest) (Dice.mk' ⟨Int.emod_nonneg _ (by decide), Int.emod_lt_of_pos _ (by decide)⟩ b0 r0 r1) (Int.emod_nonneg _ (Int.ne_of_gt u0)) (Int.emod_lt_of_pos _ u0))

end
end K
namespace K
open PySem PySem.Spec PyProof.Rows L2 DL
local macro_rules | `(tactic| walk_at "w") => `(tactic| conv => whnf)
local macro_rules | `(tactic| walk_at "side") => `(tactic| first | rfl | exact True.intro | assumption | exact shal_nil | exact shal_int | exact shal_bool | exact shal_str | exact flat_ints _ | exact flat_strs _ | omega | exact le_line (Nat.le_of_ble_eq_true rfl))
local macro_rules | `(tactic| walk_at "lc") => `(tactic| first | exact ⟨rfl, fun _ => ⟨rfl, rfl⟩, fun _ => rfl⟩ | exact ⟨rfl, fun _ => ⟨rfl, rfl⟩, fun z => (by cases z)⟩ | exact ⟨fun _ => ⟨rfl, rfl⟩, fun _ => rfl⟩ | exact ⟨fun _ => ⟨rfl, rfl⟩, fun z => (by cases z)⟩)
local macro_rules | `(tactic| walk_at "lch") => `(tactic| first | exact ⟨by simp [*], fun _ => ⟨rfl, rfl⟩, fun _ => rfl⟩ | exact ⟨by simp [*], fun z => (by cases z), fun _ => rfl⟩ | exact ⟨by simp [*], fun _ => ⟨rfl, rfl⟩, fun z => (by cases z)⟩)
local macro_rules | `(tactic| walk_at "go") => `(tactic| (walk_at "w"; repeat ((first | (refine And.intro ?left ?_; (case left => walk_at "side")) | (refine Br.t ?_) | (refine Br.f ?_)); walk_at "w")))
section
variable {P : Program} {w : World} {K : PySem.W.Frag} {mg : Str → Option Value} {base : Heap}
abbrev s__law_mixed : Stmt := topS 22
abbrev N__law_mixed : List Str := ["_law_d", "_law_row", "_law_left", "_law_found"]
theorem sc__law_mixed : FnScope N__law_mixed ["_law_d", "_law_row"] (defScope s__law_mixed) := ⟨rfl, rfl, rfl, by decide +kernel, rfl, by decide +kernel, by decide +kernel⟩
def sp_mixed : SpD := fun Γ Q _ => ∃ (p : Addr) (xs : List Int) (ds : List D), Γ = [dc p xs, .fz (.list ds)] ∧ Dice xs ∧ ds.length ≤ 1000 ∧ ∀ xs' es, Dice xs' → es.Perm ds → Q (.fz (.list es)) [dc p xs', .fz (.list ds)]
theorem ms_mixed : MonoSp sp_mixed := fun Γ Q Q' E E' h _ ⟨p, xs, u, e, g, g2, q⟩ => ⟨p, xs, u, e, g, g2, fun xs' es d h1 => h _ _ (q xs' es d h1)⟩
theorem ok_mixed {f : Addr} {fd : FuncData} (F : Fun K "_law_mixed" "_law_mixed" s__law_mixed f fd) (B : Bl mg) (D__law_off : DefOk P w K mg base 1 "_law_off" ["_law_d", "_law_upto"] 2 sp_off) : FnOk P w K mg base CX0 2 f fd ["_law_d", "_law_row"] (liftSp K 2 sp_mixed) := by
  refine fnd F sc__law_mixed 2 rfl ms_mixed (fun X cdv A outer s H E hX hr => ?_)
  subst hX
  have hu := hu64 hr
  refine ⟨_, (pds_cons (pd_set 2 (pd_callTy cd_list rfl B.list bt_list (pad_cons (pdv 1) pad_nil)) sc__law_mixed.nd)
 (pds_cons (pd_set 3 (pd_lst pad_nil) sc__law_mixed.nd)
 (pds_cons (pd_while PassesOwn.never (pb_cmp (od_ne hu) (pdv 2) (pd_lst pad_nil)) (pds_one (pd_expr (pd_mt 3 mt_app PySem.F.plainAttrs_list PySem.F.slot_list_append PySem.F.type_list_append (pv 3) (pad_cons (pd_mt 2 mt_popi PySem.F.plainAttrs_list PySem.F.slot_list_pop PySem.F.type_list_pop (pv 2) (pad_cons (pd_def D__law_off hr (pad_cons (pdv 0) (pad_cons (pd_callB cd_len rfl B.len bt_len (pad_cons (pdv 2) pad_nil)) pad_nil))) pad_nil)) pad_nil)))))
 (pds_one (pd_ret (pd_fz (pdv 3))))))), fun Γ Q E' hl hsp => ?_⟩
  obtain ⟨p, xs, ds, rfl, dx, dl, q⟩ := hsp
  walk_at "go"
  intro p2
  walk_at "go"
  intro p3
  walk_at "go"
  intro mw
  refine ⟨fun m Γ => ∃ xs left found, Γ = [dc p xs, .fz (.list ds), .ow p2 (.lst left), .ow p3 (.lst found)] ∧ Dice xs ∧ (found ++ left).Perm ds ∧ m = left.length, ⟨_, xs, ds, [], rfl, dx, .refl _, rfl⟩, ?_⟩
  rintro m Γ ⟨xs, left, found, rfl, dx, pm, rfl⟩
  have ll : found.length + left.length = ds.length := by rw [← List.length_append]; exact pm.length_eq
  walk_at "go"
  intro p4
  walk_at "go"
  rw [eqv_nil]
  refine ⟨fun h => ?_, fun h => ?_⟩
  · have hne : left ≠ [] := by rintro rfl; cases h
    have hl0 : 0 < left.length := List.length_pos_iff.mpr hne
    walk_at "go"
    refine ⟨p, xs, left.length, rfl, dx, ⟨by omega, by omega⟩, fun r xs' dx' r0 r1 => ?_⟩
    have hr2 : r.toNat < left.length := by omega
    walk_at "go"
    rw [List.getElem?_eq_getElem hr2]
    walk_at "w"
    refine ⟨le_line (by omega), ?_⟩
    walk_at "w"
    refine ⟨_, ?_, xs', left.eraseIdx r.toNat, found ++ [left[r.toNat]], rfl, dx', ?_, rfl⟩
    · rw [List.length_eraseIdx_of_lt hr2]; omega
    · refine .trans ?_ pm
      rw [List.append_assoc, List.singleton_append]
      exact .append_left _ (perm_erase hr2)
  · have hne : left = [] := by cases left with | nil => rfl | cons a b => cases h
    subst hne
    walk_at "go"
    rw [List.append_nil] at pm
    exact back_ow (q _ _ dx pm)

end
end K
namespace K
open PySem PySem.Spec PyProof.Rows L2 DL
local macro_rules | `(tactic| walk_at "w") => `(tactic| conv => whnf)
local macro_rules | `(tactic| walk_at "side") => `(tactic| first | rfl | exact True.intro | assumption | exact shal_nil | exact shal_int | exact shal_bool | exact shal_str | exact flat_ints _ | exact flat_strs _ | omega | exact le_line (Nat.le_of_ble_eq_true rfl))
local macro_rules | `(tactic| walk_at "lc") => `(tactic| first | exact ⟨rfl, fun _ => ⟨rfl, rfl⟩, fun _ => rfl⟩ | exact ⟨rfl, fun _ => ⟨rfl, rfl⟩, fun z => (by cases z)⟩ | exact ⟨fun _ => ⟨rfl, rfl⟩, fun _ => rfl⟩ | exact ⟨fun _ => ⟨rfl, rfl⟩, fun z => (by cases z)⟩)
local macro_rules | `(tactic| walk_at "lch") => `(tactic| first | exact ⟨by simp [*], fun _ => ⟨rfl, rfl⟩, fun _ => rfl⟩ | exact ⟨by simp [*], fun z => (by cases z), fun _ => rfl⟩ | exact ⟨by simp [*], fun _ => ⟨rfl, rfl⟩, fun z => (by cases z)⟩)
local macro_rules | `(tactic| walk_at "go") => `(tactic| (walk_at "w"; repeat ((first | (refine And.intro ?left ?_; (case left => walk_at "side")) | (refine Br.t ?_) | (refine Br.f ?_)); walk_at "w")))
section
variable {P : Program} {w : World} {K : PySem.W.Frag} {mg : Str → Option Value} {base : Heap}
abbrev s__law_names : Stmt := topS 23
abbrev N__law_names : List Str := ["_law_d", "_law_many", "_law_signs", "_law_turn", "_law_found", "_law_sign"]
theorem sc__law_names : FnScope N__law_names ["_law_d", "_law_many"] (defScope s__law_names) := ⟨rfl, rfl, rfl, by decide +kernel, rfl, by decide +kernel, by decide +kernel⟩
def sp_names : SpD := fun Γ Q _ => ∃ (p : Addr) (xs : List Int) (m : Int), Γ = [dc p xs, .fz (.int m)] ∧ Dice xs ∧ (0 ≤ m ∧ m ≤ 16) ∧ ∀ xs' (ns : List Str), Dice xs' → (ns.length : Int) = m → ns.Nodup → (∀ z ∈ ns, isName z = true) → Q (.fz (.list (ns.map .str))) [dc p xs', .fz (.int m)]
theorem ms_names : MonoSp sp_names := fun Γ Q Q' E E' h _ ⟨p, xs, u, e, g, g2, q⟩ => ⟨p, xs, u, e, g, g2, fun xs' es d h1 h2 h3 => h _ _ (q xs' es d h1 h2 h3)⟩
theorem ok_names {f : Addr} {fd : FuncData} (F : Fun K "_law_names" "_law_names" s__law_names f fd) (B : Bl mg) (D__law_off : DefOk P w K mg base 1 "_law_off" ["_law_d", "_law_upto"] 2 sp_off)
    (D__law_mixed : DefOk P w K mg base 2 "_law_mixed" ["_law_d", "_law_row"] 2 sp_mixed) : FnOk P w K mg base CX0 3 f fd ["_law_d", "_law_many"] (liftSp K 2 sp_names) := by
  refine fnd F sc__law_names 2 rfl ms_names (fun X cdv A outer s H E hX hr => ?_)
  subst hX
  have hu := hu64 hr
  refine ⟨_, (pds_cons (pd_set 2 (pd_str) sc__law_names.nd)
 (pds_cons (pd_set 3 (pd_def D__law_off hr (pad_cons (pdv 0) (pad_cons pd_int pad_nil))) sc__law_names.nd)
 (pds_cons (pd_set 2 (pd_fz (pd_op od_add (pd_slice (pdv 2) (pod_some (pdv 3)) pod_none) (pd_slice (pdv 2) pod_none (pod_some (pdv 3))))) sc__law_names.nd)
 (pds_cons (pd_set 4 (pd_fz (pd_lst (pad_cons (pd_ix (pdv 2) pd_int) (pad_cons (pd_fz (pd_op od_add (pd_ix (pdv 2) pd_int) (pd_ix (pdv 2) pd_int))) (pad_cons (pd_fz (pd_op od_add (pd_ix (pdv 2) pd_int) (pd_ix (pdv 2) pd_int))) (pad_cons (pd_op od_mul (pd_ix (pdv 2) pd_int) pd_int) (pad_cons (pd_op od_mul (pd_ix (pdv 2) pd_int) pd_int) (pad_cons (pd_fz (pd_slice (pdv 2) (pod_some pd_int) (pod_some pd_int))) (pad_cons (pd_ix (pdv 2) pd_int) pad_nil))))))))) sc__law_names.nd)
 (pds_cons (pd_set 4 (pd_fz (pd_op od_add (pdv 4) (pd_lc [("_law_sign", 5)] rfl sc__law_names.nd (pid_str (pd_slice (pdv 2) (pod_some pd_int) (pod_some pd_int))) (blkOk_by (N := N__law_names) (sc := defScope s__law_names) (by decide +kernel)) (fun _ _ _ _ _ => pgc_name 5 sc__law_names.nd) (fun _ _ _ _ _ => pbs_nil) (fun _ _ _ _ _ => (pd_fz (pd_op od_add (pd_op od_mul (pd_ix (pdv 2) pd_int) pd_int) (pdv 5))))))) sc__law_names.nd)
 (pds_one (pd_ret (pd_fz (pd_slice (pd_def D__law_mixed hr (pad_cons (pdv 0) (pad_cons (pdv 4) pad_nil))) pod_none (pod_some (pdv 1))))))))))), fun Γ Q E' hl hsp => ?_⟩
  obtain ⟨p, xs, m, rfl, dx, ⟨m0, m1⟩, q⟩ := hsp
  walk_at "go"
  refine ⟨p, xs, 26, rfl, dx, ⟨by decide, by decide⟩, fun r xs' dx' r0 r1 => ?_⟩
  walk_at "go"
  refine ⟨le_line (cut_sum r0 r1), ?_⟩
  obtain ⟨c0, c1, c2, c3, c4, c5, c6, c7, c8, c9, c10, c11, c12, c13, c14, c15, c16, c17, c18, c19, c20, c21, c22, c23, c24, c25, ez, n1, n2, n3⟩ := rot26 r0 r1
  have ez2 : cutS L26 (some r) none ++ cutS L26 none (some r) = _ := ez
  rw [ez2]
  rw [ez] at n1 n2 n3
  walk_at "go"
  have mul1 : ∀ c : Nat, (1 ≤ (⟨#[c]⟩ : Str).length ∧ (⟨#[c]⟩ : Str).length ≤ 1000) := fun c => ⟨Nat.le_of_ble_eq_true rfl, Nat.le_of_ble_eq_true rfl⟩
  refine ⟨⟨(mul1 _).1, (mul1 _).2, by decide, by decide⟩, ?_⟩
  walk_at "go"
  refine ⟨⟨(mul1 _).1, (mul1 _).2, by decide, by decide⟩, ?_⟩
  walk_at "go"
  intro p2
  walk_at "go"
  intro mc
  refine LcR.signs mc (fun _ => true) (fun c => .str (repS ⟨#[c2]⟩ 5 ++ ⟨#[c]⟩)) trivial (fun c hc => ?_) (fun p3 => ?_)
  · walk_at "go"
    refine ⟨fun _ => ?_, fun z => (by cases z)⟩
    walk_at "go"
    refine ⟨⟨(mul1 _).1, (mul1 _).2, by decide, by decide⟩, ?_⟩
    walk_at "go"
    rfl
  · walk_at "go"
    intro p4
    walk_at "go"
    refine ⟨p, xs', _, rfl, dx', Nat.le_of_ble_eq_true rfl, fun xs2 es d2 pm => ?_⟩
    have pm2 : es.Perm ((namesOf ⟨⟨[c0, c1, c2, c3, c4, c5, c6, c7, c8, c9, c10, c11, c12, c13, c14, c15, c16, c17, c18, c19, c20, c21, c22, c23, c24, c25]⟩⟩).map .str) := pm
    obtain ⟨ns, rfl, pn⟩ := perm_map pm2
    walk_at "go"
    intro p5
    walk_at "go"
    have hlen : ns.length = 16 := pn.length_eq.trans n1
    obtain ⟨k, rfl⟩ : ∃ k : Nat, m = (k : Int) := ⟨m.toNat, by omega⟩
    rw [cut_to, ← List.map_take]
    refine back_ow (q _ (ns.take k) d2 ?_ ?_ ?_)
    · rw [List.length_take]; omega
    · exact (pn.nodup_iff.mpr n2).sublist (List.take_sublist _ _)
    · exact fun z hz => n3 z (pn.mem_iff.mp (List.mem_of_mem_take hz))

end
end K
namespace K
open PySem PySem.Spec PyProof.Rows L2 DL
local macro_rules | `(tactic| walk_at "w") => `(tactic| conv => whnf)
local macro_rules | `(tactic| walk_at "side") => `(tactic| first | rfl | exact True.intro | assumption | exact shal_nil | exact shal_int | exact shal_bool | exact shal_str | exact flat_ints _ | exact flat_strs _ | omega | exact le_line (Nat.le_of_ble_eq_true rfl))
local macro_rules | `(tactic| walk_at "lc") => `(tactic| first | exact ⟨rfl, fun _ => ⟨rfl, rfl⟩, fun _ => rfl⟩ | exact ⟨rfl, fun _ => ⟨rfl, rfl⟩, fun z => (by cases z)⟩ | exact ⟨fun _ => ⟨rfl, rfl⟩, fun _ => rfl⟩ | exact ⟨fun _ => ⟨rfl, rfl⟩, fun z => (by cases z)⟩)
local macro_rules | `(tactic| walk_at "lch") => `(tactic| first | exact ⟨by simp [*], fun _ => ⟨rfl, rfl⟩, fun _ => rfl⟩ | exact ⟨by simp [*], fun z => (by cases z), fun _ => rfl⟩ | exact ⟨by simp [*], fun _ => ⟨rfl, rfl⟩, fun z => (by cases z)⟩)
local macro_rules | `(tactic| walk_at "go") => `(tactic| (walk_at "w"; repeat ((first | (refine And.intro ?left ?_; (case left => walk_at "side")) | (refine Br.t ?_) | (refine Br.f ?_)); walk_at "w")))
section
variable {P : Program} {w : World} {K : PySem.W.Frag} {mg : Str → Option Value} {base : Heap}
abbrev s__law_some : Stmt := topS 24
abbrev N__law_some : List Str := ["_law_d", "_law_many", "_law_few", "_law_left", "_law_found", "_law_turn"]
theorem sc__law_some : FnScope N__law_some ["_law_d", "_law_many", "_law_few"] (defScope s__law_some) := ⟨rfl, rfl, rfl, by decide +kernel, rfl, by decide +kernel, by decide +kernel⟩
def sp_some : SpD := fun Γ Q _ => ∃ (p : Addr) (xs : List Int) (m fw : Int), Γ = [dc p xs, .fz (.int m), .fz (.int fw)] ∧ Dice xs ∧ (0 ≤ m ∧ m ≤ 16) ∧ (0 ≤ fw ∧ fw ≤ 1000) ∧ ∀ xs' ys, Dice xs' → areMarks ys m = true → Q (.fz (tI ys)) [dc p xs', .fz (.int m), .fz (.int fw)]
theorem ms_some : MonoSp sp_some := fun Γ Q Q' E E' h _ ⟨p, xs, u, v, e, g, g2, g3, q⟩ => ⟨p, xs, u, v, e, g, g2, g3, fun xs' es d h1 => h _ _ (q xs' es d h1)⟩
theorem ok_some {f : Addr} {fd : FuncData} (F : Fun K "_law_some" "_law_some" s__law_some f fd) (B : Bl mg) (D__law_off : DefOk P w K mg base 1 "_law_off" ["_law_d", "_law_upto"] 2 sp_off) : FnOk P w K mg base CX0 2 f fd ["_law_d", "_law_many", "_law_few"] (liftSp K 3 sp_some) := by
  refine fnd F sc__law_some 3 rfl ms_some (fun X cdv A outer s H E hX hr => ?_)
  subst hX
  have hu := hu64 hr
  refine ⟨_, (pds_cons (pd_set 3 (pd_listRg rfl rfl B.list (prd1 rfl B.range (pdv 1))) sc__law_some.nd)
 (pds_cons (pd_set 4 (pd_lst pad_nil) sc__law_some.nd)
 (pds_cons (pd_for PassesOwn.never rfl (pid_rg1 rfl B.range (pd_callB (cd_min rfl) rfl B.min bt_min (pad_cons (pdv 1) (pad_cons (pd_def D__law_off hr (pad_cons (pdv 0) (pad_cons (pd_op od_add (pdv 2) pd_int) pad_nil))) pad_nil)))) (pgd_name 5 sc__law_some.nd) (pds_one (pd_expr (pd_mt 4 mt_app PySem.F.plainAttrs_list PySem.F.slot_list_append PySem.F.type_list_append (pv 4) (pad_cons (pd_mt 3 mt_popi PySem.F.plainAttrs_list PySem.F.slot_list_pop PySem.F.type_list_pop (pv 3) (pad_cons (pd_def D__law_off hr (pad_cons (pdv 0) (pad_cons (pd_callB cd_len rfl B.len bt_len (pad_cons (pdv 3) pad_nil)) pad_nil))) pad_nil)) pad_nil)))))
 (pds_one (pd_ret (pd_callTy cd_tuple rfl B.tuple bt_tuple (pad_cons (pd_callB cd_sortI rfl B.sorted bt_sorted (pad_cons (pdv 4) pad_nil)) pad_nil))))))), fun Γ Q E' hl hsp => ?_⟩
  obtain ⟨p, xs, m, fw, rfl, dx, ⟨m0, m1⟩, ⟨f0, f1⟩, q⟩ := hsp
  walk_at "go"
  refine ⟨RgOk.of_le (by decide) (by omega) (by decide) m0, fun p2 => ?_⟩
  rw [rgD_ints]
  walk_at "go"
  intro p3
  walk_at "go"
  refine ⟨p, xs, fw + 1, rfl, dx, ⟨by omega, by omega⟩, fun r xs' dx' r0 r1 => ?_⟩
  have hl0 : (rgI 0 m).length = m.toNat := by rw [rgI_len]; omega
  have n0 : 0 ≤ (if r < m then r else m) := by split <;> omega
  have n1 : (if r < m then r else m) ≤ m := by split <;> omega
  generalize hn : (if r < m then r else m) = n at n0 n1
  walk_at "go"
  simp only [hn]
  refine ⟨RgOk.of_le (by decide) (by omega) (by decide) n0, ?_⟩
  walk_at "go"
  intro mf
  refine ForR.rg (fun i Γ => ∃ xs left found c, Γ = [dc p xs, .fz (.int m), .fz (.int fw), .ow p2 (.lst (left.map .int)), .ow p3 (.lst (found.map .int)), c] ∧ Dice xs ∧ (found ++ left).Perm (rgI 0 m) ∧ found.length = i) ⟨_, rgI 0 m, [], _, rfl, dx', .refl _, rfl⟩ (fun i Γ hi ih => ?_) (fun Γ ih => ?_)
  · obtain ⟨xs, left, found, c, rfl, dx, pm, rfl⟩ := ih
    have ll : found.length + left.length = m.toNat := by rw [← List.length_append, pm.length_eq, hl0]
    have hl1 : (left.map PyData.int).length = left.length := List.length_map ..
    walk_at "go"
    refine ⟨p, xs, ((left.map PyData.int).length : Nat), rfl, dx, ⟨by omega, by omega⟩, fun r xs' dx' r0 r1 => ?_⟩
    have hr2 : r.toNat < left.length := by omega
    walk_at "go"
    rw [map_get? hr2]
    walk_at "w"
    refine ⟨by rw [List.length_map]; exact le_line (by omega), ?_⟩
    walk_at "w"
    refine ⟨xs', left.eraseIdx r.toNat, found ++ [left[r.toNat]], .fz (.int (0 + (found.length : Nat))), ?_, dx', ?_, by rw [List.length_append]; rfl⟩
    · rw [← map_app, ← map_erase]; rfl
    · refine .trans ?_ pm
      rw [List.append_assoc, List.singleton_append]
      exact .append_left _ (perm_erase hr2)
  · obtain ⟨xs, left, found, c, rfl, dx, pm, hi⟩ := ih
    walk_at "w"
    refine ⟨found, rfl, fun ys y1 y2 p4 => ?_⟩
    walk_at "go"
    refine back_ow (q _ ys dx (areMarks_iff.mpr ⟨up_of y2 ?_, fun x hx => ?_⟩))
    · exact y1.nodup_iff.mpr ((pm.nodup_iff.mpr (nodup_up (rgI_up _ _))).sublist (List.sublist_append_left _ _))
    · exact rgI_mem.mp (pm.mem_iff.mp (List.mem_append_left _ (y1.mem_iff.mp hx)))

end
end K
namespace K
open PySem PySem.Spec PyProof.Rows L2 DL
local macro_rules | `(tactic| walk_at "w") => `(tactic| conv => whnf)
local macro_rules | `(tactic| walk_at "side") => `(tactic| first | rfl | exact True.intro | assumption | exact shal_nil | exact shal_int | exact shal_bool | exact shal_str | exact flat_ints _ | exact flat_strs _ | omega | exact le_line (Nat.le_of_ble_eq_true rfl))
local macro_rules | `(tactic| walk_at "lc") => `(tactic| first | exact ⟨rfl, fun _ => ⟨rfl, rfl⟩, fun _ => rfl⟩ | exact ⟨rfl, fun _ => ⟨rfl, rfl⟩, fun z => (by cases z)⟩ | exact ⟨fun _ => ⟨rfl, rfl⟩, fun _ => rfl⟩ | exact ⟨fun _ => ⟨rfl, rfl⟩, fun z => (by cases z)⟩)
local macro_rules | `(tactic| walk_at "lch") => `(tactic| first | exact ⟨by simp [*], fun _ => ⟨rfl, rfl⟩, fun _ => rfl⟩ | exact ⟨by simp [*], fun z => (by cases z), fun _ => rfl⟩ | exact ⟨by simp [*], fun _ => ⟨rfl, rfl⟩, fun z => (by cases z)⟩)
local macro_rules | `(tactic| walk_at "go") => `(tactic| (walk_at "w"; repeat ((first | (refine And.intro ?left ?_; (case left => walk_at "side")) | (refine Br.t ?_) | (refine Br.f ?_)); walk_at "w")))
section
variable {P : Program} {w : World} {K : PySem.W.Frag} {mg : Str → Option Value} {base : Heap}
abbrev s__law_price : Stmt := topS 25
abbrev N__law_price : List Str := ["_law_d"]
theorem sc__law_price : FnScope N__law_price ["_law_d"] (defScope s__law_price) := ⟨rfl, rfl, rfl, by decide +kernel, rfl, by decide +kernel, by decide +kernel⟩
def sp_price : SpD := fun Γ Q _ => ∃ (p : Addr) (xs : List Int), Γ = [dc p xs] ∧ Dice xs ∧ ∀ xs' (c : Int), Dice xs' → 0 ≤ c ∧ c ≤ 99 → Q (.fz (.int c)) [dc p xs']
theorem ms_price : MonoSp sp_price := fun Γ Q Q' E E' h _ ⟨p, xs, e, g, q⟩ => ⟨p, xs, e, g, fun xs' es d h1 => h _ _ (q xs' es d h1)⟩
theorem ok_price {f : Addr} {fd : FuncData} (F : Fun K "_law_price" "_law_price" s__law_price f fd) (B : Bl mg) (D__law_off : DefOk P w K mg base 1 "_law_off" ["_law_d", "_law_upto"] 2 sp_off) : FnOk P w K mg base CX0 2 f fd ["_law_d"] (liftSp K 1 sp_price) := by
  refine fnd F sc__law_price 1 rfl ms_price (fun X cdv A outer s H E hX hr => ?_)
  subst hX
  have hu := hu64 hr
  refine ⟨_, (pds_one (pd_ret (pd_ix (pd_lst (pad_cons (pd_op od_add pd_int (pd_def D__law_off hr (pad_cons (pdv 0) (pad_cons pd_int pad_nil)))) (pad_cons (pd_op od_add pd_int (pd_def D__law_off hr (pad_cons (pdv 0) (pad_cons pd_int pad_nil)))) (pad_cons pd_int (pad_cons (pd_def D__law_off hr (pad_cons (pdv 0) (pad_cons pd_int pad_nil))) pad_nil))))) (pd_def D__law_off hr (pad_cons (pdv 0) (pad_cons pd_int pad_nil)))))), fun Γ Q E' hl hsp => ?_⟩
  obtain ⟨p, xs, rfl, dx, q⟩ := hsp
  walk_at "go"
  refine ⟨p, xs, 4, rfl, dx, ⟨by decide, by decide⟩, fun r1 xs d1 r10 r11 => ?_⟩
  walk_at "go"
  refine ⟨p, xs, 4, rfl, d1, ⟨by decide, by decide⟩, fun r2 xs d2 r20 r21 => ?_⟩
  walk_at "go"
  refine ⟨p, xs, 100, rfl, d2, ⟨by decide, by decide⟩, fun r3 xs d3 r30 r31 => ?_⟩
  walk_at "go"
  intro p2
  walk_at "go"
  refine ⟨p, xs, 4, rfl, d3, ⟨by decide, by decide⟩, fun r4 xs d4 r40 r41 => ?_⟩
  rcases lt4 r40 r41 with rfl | rfl | rfl | rfl
  all_goals (walk_at "go"; exact back_ow (q _ _ d4 ⟨by omega, by omega⟩))

end
end K
namespace K
open PySem PySem.Spec PyProof.Rows L2 DL
local macro_rules | `(tactic| walk_at "w") => `(tactic| conv => whnf)
local macro_rules | `(tactic| walk_at "side") => `(tactic| first | rfl | exact True.intro | assumption | exact shal_nil | exact shal_int | exact shal_bool | exact shal_str | exact flat_ints _ | exact flat_strs _ | omega | exact le_line (Nat.le_of_ble_eq_true rfl))
local macro_rules | `(tactic| walk_at "lc") => `(tactic| first | exact ⟨rfl, fun _ => ⟨rfl, rfl⟩, fun _ => rfl⟩ | exact ⟨rfl, fun _ => ⟨rfl, rfl⟩, fun z => (by cases z)⟩ | exact ⟨fun _ => ⟨rfl, rfl⟩, fun _ => rfl⟩ | exact ⟨fun _ => ⟨rfl, rfl⟩, fun z => (by cases z)⟩)
local macro_rules | `(tactic| walk_at "lch") => `(tactic| first | exact ⟨by simp [*], fun _ => ⟨rfl, rfl⟩, fun _ => rfl⟩ | exact ⟨by simp [*], fun z => (by cases z), fun _ => rfl⟩ | exact ⟨by simp [*], fun _ => ⟨rfl, rfl⟩, fun z => (by cases z)⟩)
local macro_rules | `(tactic| walk_at "go") => `(tactic| (walk_at "w"; repeat ((first | (refine And.intro ?left ?_; (case left => walk_at "side")) | (refine Br.t ?_) | (refine Br.f ?_)); walk_at "w")))
section
variable {P : Program} {w : World} {K : PySem.W.Frag} {mg : Str → Option Value} {base : Heap}
abbrev s__law_parts : Stmt := topS 26
abbrev N__law_parts : List Str := ["_law_d", "_law_many", "_law_way", "_law_k", "_law_one", "_law_other", "_law_mark", "_law_strikes", "_law_low", "_law_sets", "_law_needs", "_law_below"]
theorem sc__law_parts : FnScope N__law_parts ["_law_d", "_law_many", "_law_way", "_law_k"] (defScope s__law_parts) := ⟨rfl, rfl, rfl, by decide +kernel, rfl, by decide +kernel, by decide +kernel⟩
def sp_parts : SpD := fun Γ Q _ => ∃ (p : Addr) (xs : List Int) (m wy k : Int), Γ = [dc p xs, .fz (.int m), .fz (.int wy), .fz (.int k)] ∧ Dice xs ∧ (1 ≤ m ∧ m ≤ 16) ∧ (0 ≤ k ∧ k ≤ 1000) ∧ ∀ xs' ns ss ks, Dice xs' → areMarks ns m = true → areMarks ss m = true → areMarks ks m = true → (∀ x ∈ ss, x ∉ ks) → Q (.fz (.tuple [tI ns, tI ss, tI ks])) [dc p xs', .fz (.int m), .fz (.int wy), .fz (.int k)]
theorem ms_parts : MonoSp sp_parts := fun Γ Q Q' E E' h _ ⟨p, xs, m, wy, k, e, g, g2, g3, q⟩ => ⟨p, xs, m, wy, k, e, g, g2, g3, fun xs' ns ss ks d h1 h2 h3 h4 => h _ _ (q xs' ns ss ks d h1 h2 h3 h4)⟩
theorem ok_parts {f : Addr} {fd : FuncData} (F : Fun K "_law_parts" "_law_parts" s__law_parts f fd) (B : Bl mg) (D__law_off : DefOk P w K mg base 1 "_law_off" ["_law_d", "_law_upto"] 2 sp_off)
    (D__law_some : DefOk P w K mg base 2 "_law_some" ["_law_d", "_law_many", "_law_few"] 3 sp_some) : FnOk P w K mg base CX0 3 f fd ["_law_d", "_law_many", "_law_way", "_law_k"] (liftSp K 4 sp_parts) := by
  refine fnd F sc__law_parts 4 rfl ms_parts (fun X cdv A outer s H E hX hr => ?_)
  subst hX
  have hu := hu64 hr
  refine ⟨_, (pds_cons (pd_if (pb_cmp (od_eq hu) (pdv 2) pd_int) (pds_cons (pd_set 4 (pd_def D__law_off hr (pad_cons (pdv 0) (pad_cons (pdv 1) pad_nil))) sc__law_parts.nd)
 (pds_cons (pd_set 5 (pd_def D__law_off hr (pad_cons (pdv 0) (pad_cons (pdv 1) pad_nil))) sc__law_parts.nd)
 (pds_one (pd_ret (pd_tup (pad_cons (pd_tup (pad_cons (pdv 4) pad_nil)) (pad_cons (pd_tup (pad_cons (pdv 5) pad_nil)) (pad_cons (pd_ifExp (pb_cmp (od_ne hu) (pdv 4) (pdv 5)) (pd_tup (pad_cons (pdv 4) pad_nil)) (pd_tup pad_nil)) pad_nil)))))))) pds_nil)
 (pds_cons (pd_if (pb_cmp (od_eq hu) (pdv 2) pd_int) (pds_cons (pd_set 6 (pd_op od_mod (pdv 3) (pdv 1)) sc__law_parts.nd)
 (pds_cons (pd_sfz 7 (pd_setLc 7 [("_law_below", 11)] rfl sc__law_parts.nd (pid_rg1 rfl B.range (pdv 6)) (blkOk_by (N := N__law_parts) (sc := defScope s__law_parts) (by decide +kernel)) (fun _ _ _ _ _ => pgc_name 11 sc__law_parts.nd) (fun _ _ _ _ _ => pbs_one (pb_cmp (od_eq hu) (pd_def D__law_off hr (pad_cons (pdv 0) (pad_cons pd_int pad_nil))) pd_int)) (fun _ _ _ _ _ => (pdv 11))))
 (pds_one (pd_ret (pd_tup (pad_cons (pd_callTy cd_tuple rfl B.tuple bt_tuple (pad_cons (pd_lc [("_law_below", 11)] rfl sc__law_parts.nd (pid_rg1 rfl B.range (pdv 6)) (blkOk_by (N := N__law_parts) (sc := defScope s__law_parts) (by decide +kernel)) (fun _ _ _ _ _ => pgc_name 11 sc__law_parts.nd) (fun _ _ _ _ _ => pbs_one (pb_cmp (od_eq hu) (pd_def D__law_off hr (pad_cons (pdv 0) (pad_cons pd_int pad_nil))) pd_int)) (fun _ _ _ _ _ => (pdv 11))) pad_nil)) (pad_cons (pd_tup (pad_cons (pdv 6) pad_nil)) (pad_cons (pd_callTy cd_tuple rfl B.tuple bt_tuple (pad_cons (pdv 7) pad_nil)) pad_nil)))))))) pds_nil)
 (pds_cons (pd_if (pb_cmp (od_eq hu) (pdv 2) pd_int) (pds_cons (pd_set 6 (pd_op od_mod (pdv 3) (pdv 1)) sc__law_parts.nd)
 (pds_cons (pd_set 8 (pd_callB (cd_max rfl) rfl B.max bt_max (pad_cons pd_int (pad_cons (pd_op od_sub (pdv 6) pd_int) pad_nil))) sc__law_parts.nd)
 (pds_one (pd_ret (pd_tup (pad_cons (pd_tupRg rfl rfl B.tuple (prd2 rfl B.range (pd_ix (pd_lst (pad_cons (pdv 8) (pad_cons pd_int pad_nil))) (pd_callTy cd_int rfl B.int bt_int (pad_cons (pd_cmp (od_eq hu) (pd_def D__law_off hr (pad_cons (pdv 0) (pad_cons pd_int pad_nil))) pd_int) pad_nil))) (pdv 6))) (pad_cons (pd_tup (pad_cons (pdv 6) pad_nil)) (pad_cons (pd_def D__law_some hr (pad_cons (pdv 0) (pad_cons (pdv 8) (pad_cons (pd_def D__law_off hr (pad_cons (pdv 0) (pad_cons pd_int pad_nil))) pad_nil)))) pad_nil)))))))) pds_nil)
 (pds_cons (pd_set 9 (pd_def D__law_some hr (pad_cons (pdv 0) (pad_cons (pdv 1) (pad_cons pd_int pad_nil)))) sc__law_parts.nd)
 (pds_cons (pd_set 10 (pd_def D__law_some hr (pad_cons (pdv 0) (pad_cons (pdv 1) (pad_cons (pd_ix (pd_lst (pad_cons pd_int (pad_cons pd_int (pad_cons pd_int (pad_cons (pdv 1) pad_nil))))) (pd_def D__law_off hr (pad_cons (pdv 0) (pad_cons pd_int pad_nil)))) pad_nil)))) sc__law_parts.nd)
 (pds_one (pd_ret (pd_tup (pad_cons (pdv 10) (pad_cons (pdv 9) (pad_cons (pd_callTy cd_tuple rfl B.tuple bt_tuple (pad_cons (pd_lc [("_law_mark", 6)] rfl sc__law_parts.nd (pid_seq (pd_def D__law_some hr (pad_cons (pdv 0) (pad_cons (pdv 1) (pad_cons pd_int pad_nil))))) (blkOk_by (N := N__law_parts) (sc := defScope s__law_parts) (by decide +kernel)) (fun _ _ _ _ _ => pgc_name 6 sc__law_parts.nd) (fun _ _ _ _ _ => pbs_one (pb_cmp od_notIn (pdv 6) (pdv 9))) (fun _ _ _ _ _ => (pdv 6))) pad_nil)) pad_nil))))))))))), fun Γ Q E' hl hsp => ?_⟩
  obtain ⟨p, xs, m, wy, k, rfl, dx, ⟨m0, m1⟩, ⟨k0, k1⟩, q⟩ := hsp
  walk_at "go"
  rw [eqv_int]
  refine ⟨fun h => ?_, fun h => ?_⟩
  · walk_at "go"
    refine ⟨p, xs, m, rfl, dx, ⟨by omega, by omega⟩, fun r1 xs d1 r10 r11 => ?_⟩
    walk_at "go"
    refine ⟨p, xs, m, rfl, d1, ⟨by omega, by omega⟩, fun r2 xs d2 r20 r21 => ?_⟩
    walk_at "go"
    rw [eqv_int]
    have a1 : areMarks [r1] m = true := marks1 r10 r11
    have a2 : areMarks [r2] m = true := marks1 r20 r21
    refine ⟨fun h2 => ?_, fun h2 => ?_⟩
    · have h2 : r1 ≠ r2 := by simpa using h2
      walk_at "go"
      exact back_ow (q _ [r1] [r2] [r1] d2 a1 a2 a1 fun x hx hy => h2 ((List.mem_singleton.mp hy).symm.trans (List.mem_singleton.mp hx)))
    · walk_at "go"
      exact back_ow (q _ [r1] [r2] [] d2 a1 a2 rfl fun x hx hy => by cases hy)
  walk_at "go"
  rw [eqv_int]
  have km0 : 0 ≤ k % m := Int.emod_nonneg _ (by omega)
  have km1 : k % m < m := Int.emod_lt_of_pos _ (by omega)
  have lo : ∀ ys : List Int, ys.Sublist (rgI 0 (k % m)) → areMarks ys m = true ∧ k % m ∉ ys := fun ys hs => by
    refine ⟨areMarks_iff.mpr ⟨(rgI_up _ _).sublist hs, fun x hx => ?_⟩, fun hx => ?_⟩
    · have := rgI_mem.mp (hs.subset hx); omega
    · have := rgI_mem.mp (hs.subset hx); omega
  refine ⟨fun h3 => ?_, fun h3 => ?_⟩
  · walk_at "go"
    refine ⟨RgOk.of_le (by decide) (by omega) (by decide) km0, ?_⟩
    walk_at "w"
    rw [rgD_ints]
    intro mc
    refine LcR.sub mc (fun Γ => ∃ xs c, Γ = [dc p xs, .fz (.int m), .fz (.int wy), .fz (.int k), .no, .no, .fz (.int (k % m)), .no, .no, .no, .no, c] ∧ Dice xs) ⟨_, _, rfl, dx⟩ (fun _ _ => trivial) (fun x hx Γ j => ?_) (fun a ys Γ hs j => ?_)
    · obtain ⟨xs, c, rfl, dx⟩ := j
      walk_at "go"
      refine ⟨p, xs, 2, rfl, dx, ⟨by decide, by decide⟩, fun r1 xs d1 r10 r11 => ?_⟩
      walk_at "go"
      refine ⟨fun _ => ?_, fun _ => ⟨_, _, rfl, d1⟩⟩
      walk_at "go"
      exact ⟨_, _, rfl, d1⟩
    · obtain ⟨xs, c, rfl, dx⟩ := j
      walk_at "go"
      refine ⟨RgOk.of_le (by decide) (by omega) (by decide) km0, ?_⟩
      walk_at "w"
      rw [rgD_ints]
      intro mc
      refine LcR.sub mc (fun Γ => ∃ xs c, Γ = [dc p xs, .fz (.int m), .fz (.int wy), .fz (.int k), .no, .no, .fz (.int (k % m)), .fz (lI ys), .no, .no, .no, c] ∧ Dice xs) ⟨_, _, rfl, dx⟩ (fun _ _ => trivial) (fun x hx Γ j => ?_) (fun a ys2 Γ hs2 j => ?_)
      · obtain ⟨xs, c, rfl, dx⟩ := j
        walk_at "go"
        refine ⟨p, xs, 2, rfl, dx, ⟨by decide, by decide⟩, fun r1 xs d1 r10 r11 => ?_⟩
        walk_at "go"
        refine ⟨fun _ => ?_, fun _ => ⟨_, _, rfl, d1⟩⟩
        walk_at "go"
        exact ⟨_, _, rfl, d1⟩
      · obtain ⟨xs, c, rfl, dx⟩ := j
        walk_at "go"
        exact back_ow (q _ ys2 [k % m] ys dx (lo _ hs2).1 (marks1 km0 km1) (lo _ hs).1 fun x hx hy => (lo _ hs).2 (by rw [← List.mem_singleton.mp hx]; exact hy))
  walk_at "go"
  rw [eqv_int]
  refine ⟨fun h4 => ?_, fun h4 => ?_⟩
  · walk_at "go"
    intro p2
    walk_at "go"
    refine ⟨p, xs, 4, rfl, dx, ⟨by decide, by decide⟩, fun r1 xs d1 r10 r11 => ?_⟩
    walk_at "go"
    have lw0 : 0 ≤ (if k % m - 1 > 0 then k % m - 1 else 0) := by split <;> omega
    have lw1 : (if k % m - 1 > 0 then k % m - 1 else 0) ≤ k % m := by split <;> omega
    generalize hlw : (if k % m - 1 > 0 then k % m - 1 else 0) = lw at *
    rw [eqv_int]
    have sub4 : ∀ b : Int, 0 ≤ b → areMarks (rgI b (k % m)) m = true := fun b hb => areMarks_iff.mpr ⟨rgI_up _ _, fun x hx => by have := rgI_mem.mp hx; omega⟩
    have low4 : ∀ ys : List Int, areMarks ys lw = true → areMarks ys m = true ∧ k % m ∉ ys := fun ys h => by
      obtain ⟨h1, h2⟩ := areMarks_iff.mp h
      exact ⟨areMarks_iff.mpr ⟨h1, fun x hx => by have := h2 x hx; omega⟩, fun hx => by have := h2 _ hx; omega⟩
    cases hb : decide (r1 = 0)
    · walk_at "go"
      refine ⟨RgOk.of_le lw0 (by omega) (by omega) km0, ?_⟩
      walk_at "w"
      rw [rgD_ints]
      walk_at "go"
      refine ⟨p, xs, 2, rfl, d1, ⟨by decide, by decide⟩, fun r2 xs d2 r20 r21 => ?_⟩
      walk_at "go"
      refine ⟨p, xs, lw, r2, rfl, d2, ⟨lw0, by omega⟩, ⟨r20, by omega⟩, fun xs ys d3 ms => ?_⟩
      walk_at "go"
      exact back_ow (q _ _ [k % m] ys d3 (sub4 _ lw0) (marks1 km0 km1) (low4 _ ms).1 fun x hx hy => (low4 _ ms).2 (by rw [← List.mem_singleton.mp hx]; exact hy))
    · walk_at "go"
      refine ⟨RgOk.of_le (by decide) (by omega) (by decide) km0, ?_⟩
      walk_at "w"
      rw [rgD_ints]
      walk_at "go"
      refine ⟨p, xs, 2, rfl, d1, ⟨by decide, by decide⟩, fun r2 xs d2 r20 r21 => ?_⟩
      walk_at "go"
      refine ⟨p, xs, lw, r2, rfl, d2, ⟨lw0, by omega⟩, ⟨r20, by omega⟩, fun xs ys d3 ms => ?_⟩
      walk_at "go"
      exact back_ow (q _ _ [k % m] ys d3 (sub4 _ (Int.le_refl 0)) (marks1 km0 km1) (low4 _ ms).1 fun x hx hy => (low4 _ ms).2 (by rw [← List.mem_singleton.mp hx]; exact hy))
  walk_at "go"
  refine ⟨p, xs, m, 2, rfl, dx, ⟨by omega, by omega⟩, ⟨by decide, by decide⟩, fun xs ss d1 ms => ?_⟩
  walk_at "go"
  intro p2
  walk_at "go"
  refine ⟨p, xs, 4, rfl, d1, ⟨by decide, by decide⟩, fun r2 xs d2 r20 r21 => ?_⟩
  walk_at "go"
  have out : ∀ ks : List Int, areMarks ks m = true → areMarks (ks.filter fun x => !decide (x ∈ ss)) m = true ∧ ∀ x ∈ ss, x ∉ (ks.filter fun x => !decide (x ∈ ss)) := fun ks h => by
    obtain ⟨h1, h2⟩ := areMarks_iff.mp h
    exact ⟨areMarks_iff.mpr ⟨h1.filter _, fun x hx => h2 x (List.mem_filter.mp hx).1⟩, fun x hx hy => by have := (List.mem_filter.mp hy).2; simp [hx] at this⟩
  rcases lt4 r20 r21 with rfl | rfl | rfl | rfl
  all_goals
    walk_at "go"
    refine ⟨p, xs, m, _, rfl, d2, ⟨by omega, by omega⟩, ⟨by omega, by omega⟩, fun xs ns d3 mn => ?_⟩
    walk_at "go"
    refine ⟨p, xs, m, 2, rfl, d3, ⟨by omega, by omega⟩, ⟨by decide, by decide⟩, fun xs ks d4 mk => ?_⟩
    walk_at "go"
    intro mc
    refine LcR.ints mc (fun x => !decide (x ∈ ss)) .int trivial (fun x hx => ?_) (fun b => ?_)
    · walk_at "go"
      rw [isIn_ints]
      walk_at "lc"
    · walk_at "go"
      exact back_ow (q _ _ _ _ d4 mn ms (out _ mk).1 (out _ mk).2)

end
end K
/-! M3: yards put together. -/
namespace K
open PySem DL L2
structure Good1 (n : Int) (d : Deed) : Prop where
  nm : isName d.name = true
  c0 : 0 ≤ d.cost
  c1 : d.cost ≤ 99
  nd : areMarks d.needs n = true
  st : areMarks d.sets n = true
  sk : areMarks d.strikes n = true
  apart : ∀ m ∈ d.sets, m ∉ d.strikes
theorem nodup_take {α : Type} {xs : List α} (h : xs.Nodup) {i : Nat} {z : α} (e : xs[i]? = some z) : z ∉ xs.take i := by
  intro hz
  obtain ⟨j, hj, ez⟩ := List.mem_iff_getElem.mp hz
  have hj2 : j < i := by rw [List.length_take] at hj; omega
  obtain ⟨hi, e⟩ := List.getElem?_eq_some_iff.mp e
  rw [List.getElem_take] at ez
  have := List.pairwise_iff_getElem.mp h j i (by omega) hi hj2
  exact this (ez.trans e.symm)
theorem goodY_of {marks : List Str} {deeds : List Deed} {start wish : List Int} (m1 : 1 ≤ marks.length) (m2 : marks.length ≤ 10) (mn : marks.Nodup) (mi : ∀ z ∈ marks, isName z = true) (d2 : deeds.length ≤ 16)
    (dn : (deeds.map Deed.name).Nodup) (dg : ∀ d ∈ deeds, Good1 (marks.length : Nat) d) (b : areMarks start (marks.length : Nat) = true) (w : areMarks wish (marks.length : Nat) = true) : GoodY ⟨marks, deeds, start, wish⟩ := by
  refine ⟨m1, m2, fun i z e => ⟨mi z (List.mem_of_getElem? e), nodup_take mn e⟩, d2, fun i d e => ?_, b, w⟩
  have g := dg d (List.mem_of_getElem? e)
  refine ⟨g.nm, ?_, g.c0, g.c1, g.nd, g.st, g.sk, g.apart⟩
  intro hz
  rw [List.map_take] at hz
  exact nodup_take dn (i := i) (by rw [List.getElem?_map, e]; rfl) hz
theorem dD_app (ds : List Deed) (d : Deed) : ds.map dD ++ [dD d] = (ds ++ [d]).map dD := by simp
theorem map_gets {ns : List Str} {i : Nat} (h : i < ns.length) : (ns.map PyData.str)[i]? = some (.str ns[i]) := by rw [List.getElem?_map, List.getElem?_eq_getElem h]; rfl
theorem atD_nat {α : Type} {ds : List α} {i : Nat} : atD ds (i : Int) = ds[i]? := rfl
end K
namespace K
open PySem PySem.Spec PyProof.Rows L2 DL
local macro_rules | `(tactic| walk_at "w") => `(tactic| conv => whnf)
local macro_rules | `(tactic| walk_at "side") => `(tactic| first | rfl | exact True.intro | assumption | exact shal_nil | exact shal_int | exact shal_bool | exact shal_str | exact flat_ints _ | exact flat_strs _ | omega | exact le_line (Nat.le_of_ble_eq_true rfl))
local macro_rules | `(tactic| walk_at "lc") => `(tactic| first | exact ⟨rfl, fun _ => ⟨rfl, rfl⟩, fun _ => rfl⟩ | exact ⟨rfl, fun _ => ⟨rfl, rfl⟩, fun z => (by cases z)⟩ | exact ⟨fun _ => ⟨rfl, rfl⟩, fun _ => rfl⟩ | exact ⟨fun _ => ⟨rfl, rfl⟩, fun z => (by cases z)⟩)
local macro_rules | `(tactic| walk_at "lch") => `(tactic| first | exact ⟨by simp [*], fun _ => ⟨rfl, rfl⟩, fun _ => rfl⟩ | exact ⟨by simp [*], fun z => (by cases z), fun _ => rfl⟩ | exact ⟨by simp [*], fun _ => ⟨rfl, rfl⟩, fun z => (by cases z)⟩)
local macro_rules | `(tactic| walk_at "go") => `(tactic| (walk_at "w"; repeat ((first | (refine And.intro ?left ?_; (case left => walk_at "side")) | (refine Br.t ?_) | (refine Br.f ?_)); walk_at "w")))
section
variable {P : Program} {w : World} {K : PySem.W.Frag} {mg : Str → Option Value} {base : Heap}
abbrev s__law_yard : Stmt := topS 27
abbrev N__law_yard : List Str := ["_law_d", "_law_upto", "_law_acts", "_law_many", "_law_way", "_law_names_here", "_law_found", "_law_k", "_law_needs", "_law_sets", "_law_strikes", "_law_begin", "_law_wish"]
theorem sc__law_yard : FnScope N__law_yard ["_law_d", "_law_upto", "_law_acts"] (defScope s__law_yard) := ⟨rfl, rfl, rfl, by decide +kernel, rfl, by decide +kernel, by decide +kernel⟩
def sp_yard : SpD := fun Γ Q _ => ∃ (p : Addr) (xs : List Int) (u a : Int), Γ = [dc p xs, .fz (.int u), .fz (.int a)] ∧ Dice xs ∧ (1 ≤ u ∧ u ≤ 10) ∧ (0 ≤ a ∧ a ≤ 16) ∧ ∀ xs' y, Dice xs' → GoodY y → (y.marks.length : Int) ≤ u → (y.deeds.length : Int) ≤ a → Q (.fz (yD y)) [dc p xs', .fz (.int u), .fz (.int a)]
theorem ms_yard : MonoSp sp_yard := fun Γ Q Q' E E' h _ ⟨p, xs, u, a, e, g, g2, g3, q⟩ => ⟨p, xs, u, a, e, g, g2, g3, fun xs' y d h1 h2 h3 => h _ _ (q xs' y d h1 h2 h3)⟩
theorem ok_yard {f : Addr} {fd : FuncData} (F : Fun K "_law_yard" "_law_yard" s__law_yard f fd) (B : Bl mg) (D__law_off : DefOk P w K mg base 1 "_law_off" ["_law_d", "_law_upto"] 2 sp_off)
    (D__law_mixed : DefOk P w K mg base 2 "_law_mixed" ["_law_d", "_law_row"] 2 sp_mixed) (D__law_names : DefOk P w K mg base 3 "_law_names" ["_law_d", "_law_many"] 2 sp_names)
    (D__law_some : DefOk P w K mg base 2 "_law_some" ["_law_d", "_law_many", "_law_few"] 3 sp_some) (D__law_price : DefOk P w K mg base 2 "_law_price" ["_law_d"] 1 sp_price)
    (D__law_parts : DefOk P w K mg base 3 "_law_parts" ["_law_d", "_law_many", "_law_way", "_law_k"] 4 sp_parts) : FnOk P w K mg base CX0 4 f fd ["_law_d", "_law_upto", "_law_acts"] (liftSp K 3 sp_yard) := by
  refine fnd F sc__law_yard 3 rfl ms_yard (fun X cdv A outer s H E hX hr => ?_)
  subst hX
  have hu := hu64 hr
  refine ⟨_, (pds_cons (pd_set 3 (pd_op od_add pd_int (pd_def D__law_off hr (pad_cons (pdv 0) (pad_cons (pdv 1) pad_nil)))) sc__law_yard.nd)
 (pds_cons (pd_set 4 (pd_def D__law_off hr (pad_cons (pdv 0) (pad_cons pd_int pad_nil))) sc__law_yard.nd)
 (pds_cons (pd_set 5 (pd_def D__law_names hr (pad_cons (pdv 0) (pad_cons (pdv 2) pad_nil))) sc__law_yard.nd)
 (pds_cons (pd_set 6 (pd_lst pad_nil) sc__law_yard.nd)
 (pds_cons (pd_if (pb_cmp (od_eq hu) (pdv 4) pd_int) (pds_one (pd_set 3 (pdv 1) sc__law_yard.nd)) pds_nil)
 (pds_cons (pd_for PassesOwn.never rfl (pid_rg1 rfl B.range (pd_ifExp (pb_cmp od_lt (pdv 4) pd_int) (pd_def D__law_off hr (pad_cons (pdv 0) (pad_cons (pd_op od_add (pdv 2) pd_int) pad_nil))) (pd_op od_sub (pdv 2) (pd_def D__law_off hr (pad_cons (pdv 0) (pad_cons pd_int pad_nil)))))) (pgd_name 7 sc__law_yard.nd) (pds_cons (pd_asg (pd_def D__law_parts hr (pad_cons (pdv 0) (pad_cons (pdv 3) (pad_cons (pdv 4) (pad_cons (pdv 7) pad_nil))))) (pgd_tup rfl (pgsd_cons (pgd_name 8 sc__law_yard.nd) (pgsd_cons (pgd_name 9 sc__law_yard.nd) (pgsd_cons (pgd_name 10 sc__law_yard.nd) pgsd_nil)))))
 (pds_one (pd_expr (pd_mt 6 mt_app PySem.F.plainAttrs_list PySem.F.slot_list_append PySem.F.type_list_append (pv 6) (pad_cons (pd_tup (pad_cons (pd_ix (pdv 5) (pdv 7)) (pad_cons (pdv 8) (pad_cons (pdv 9) (pad_cons (pdv 10) (pad_cons (pd_callB (cd_max rfl) rfl B.max bt_max (pad_cons (pd_def D__law_price hr (pad_cons (pdv 0) pad_nil)) (pad_cons (pd_callTy cd_int rfl B.int bt_int (pad_cons (pd_cmp (od_eq hu) (pdv 4) pd_int) pad_nil)) pad_nil))) pad_nil)))))) pad_nil))))))
 (pds_cons (pd_set 11 (pd_def D__law_some hr (pad_cons (pdv 0) (pad_cons (pdv 3) (pad_cons (pd_ix (pd_lst (pad_cons pd_int (pad_cons pd_int (pad_cons (pdv 3) pad_nil)))) (pd_def D__law_off hr (pad_cons (pdv 0) (pad_cons pd_int pad_nil)))) pad_nil)))) sc__law_yard.nd)
 (pds_cons (pd_set 12 (pd_def D__law_some hr (pad_cons (pdv 0) (pad_cons (pdv 3) (pad_cons (pd_ix (pd_lst (pad_cons pd_int (pad_cons pd_int (pad_cons pd_int (pad_cons (pdv 3) pad_nil))))) (pd_def D__law_off hr (pad_cons (pdv 0) (pad_cons pd_int pad_nil)))) pad_nil)))) sc__law_yard.nd)
 (pds_cons (pd_if (PBW.pb (pbw_and (pb_cmp od_gt (pdv 4) pd_int) (pbw_and1 (pb_cmp (od_eq hu) (pd_def D__law_off hr (pad_cons (pdv 0) (pad_cons pd_int pad_nil))) pd_int)))) (pds_one (pd_par 11 12 rfl sc__law_yard.nd (pad_cons (pd_tup pad_nil) (pad_cons (pd_tup (pad_cons (pd_op od_sub (pdv 3) pd_int) pad_nil)) pad_nil)))) pds_nil)
 (pds_one (pd_ret (pd_tup (pad_cons (pd_callTy cd_tuple rfl B.tuple bt_tuple (pad_cons (pd_def D__law_names hr (pad_cons (pdv 0) (pad_cons (pdv 3) pad_nil))) pad_nil)) (pad_cons (pd_callTy cd_tuple rfl B.tuple bt_tuple (pad_cons (pd_def D__law_mixed hr (pad_cons (pdv 0) (pad_cons (pd_fz (pdv 6)) pad_nil))) pad_nil)) (pad_cons (pdv 11) (pad_cons (pdv 12) pad_nil)))))))))))))))), fun Γ Q E' hl hsp => ?_⟩
  obtain ⟨p, xs, u, a, rfl, dx, ⟨u0, u1⟩, ⟨a0, a1⟩, q⟩ := hsp
  walk_at "go"
  refine ⟨p, xs, u, rfl, dx, ⟨by omega, by omega⟩, fun r1 xs d1 r10 r11 => ?_⟩
  walk_at "go"
  refine ⟨p, xs, 5, rfl, d1, ⟨by decide, by decide⟩, fun wy xs d2 r20 r21 => ?_⟩
  walk_at "go"
  refine ⟨p, xs, a, rfl, d2, ⟨a0, a1⟩, fun xs ns d3 n1 n2 n3 => ?_⟩
  walk_at "go"
  intro p2
  walk_at "go"
  rw [eqv_int]
  refine ⟨fun hw => ?_, fun hw => ?_⟩
  · have hw : wy = 4 := of_decide_eq_true hw
    walk_at "go"
    refine ⟨fun hw2 => absurd (of_decide_eq_true hw2) (by omega), fun _ => ?_⟩
    walk_at "go"
    refine ⟨p, xs, 3, rfl, d3, ⟨by decide, by decide⟩, fun r3 xs d4 r30 r31 => ?_⟩
    walk_at "go"
    refine ⟨⟨by omega, by omega, by omega, by omega, by omega⟩, ?_⟩
    walk_at "w"
    intro mf
    refine ForR.rg0 (fun (i : Nat) Γ => ∃ (xs : List Int) (deeds : List Deed) (m : Int) (c7 c8 c9 c10 : SV), Γ = [dc p xs, .fz (.int u), .fz (.int a), .fz (.int m), .fz (.int wy), .fz (.list (ns.map .str)), .ow p2 (.lst (deeds.map dD)), c7, c8, c9, c10, .no, .no] ∧ Dice xs ∧ (1 ≤ m ∧ m ≤ u) ∧ deeds.map Deed.name = ns.take i ∧ (∀ d ∈ deeds, Good1 m d))
      ⟨_, [], _, _, _, _, _, rfl, d4, ⟨by omega, by omega⟩, rfl, fun d hd => by cases hd⟩ (fun i Γ hi ih => ?_) (fun Γ ih => ?_)
    · obtain ⟨xs, deeds, m, c7, c8, c9, c10, rfl, dx, ⟨m0, m1⟩, nm, gd⟩ := ih
      have hi2 : i < ns.length := by omega
      have dl : deeds.length = i := by rw [← List.length_map (f := Deed.name), nm, List.length_take]; omega
      walk_at "go"
      refine ⟨p, xs, m, wy, i, rfl, dx, ⟨m0, by omega⟩, ⟨by omega, by omega⟩, fun xs nd ss ks d5 h1 h2 h3 h4 => ?_⟩
      walk_at "go"
      rw [atD_nat, map_gets hi2]
      walk_at "go"
      refine ⟨p, xs, rfl, d5, fun xs c d6 hc => ?_⟩
      obtain ⟨hc0, hc1⟩ := hc
      walk_at "go"
      have e0 : ∀ b : Bool, 0 ≤ (if (if b = true then (1 : Int) else 0) > c then (if b = true then (1 : Int) else 0) else c) ∧ (if (if b = true then (1 : Int) else 0) > c then (if b = true then (1 : Int) else 0) else c) ≤ 99 := fun b => by
        cases b <;> simp <;> split <;> omega
      refine ⟨by rw [List.length_map]; exact le_line (by omega), ?_⟩
      walk_at "w"
      refine ⟨xs, deeds ++ [⟨ns[i], nd, ss, ks, if (if PyData.eqv (.int wy) (.int 4) = true then (1 : Int) else 0) > c then (if PyData.eqv (.int wy) (.int 4) = true then (1 : Int) else 0) else c⟩], m, .fz (.int (i : Nat)), .fz (tI nd), .fz (tI ss), .fz (tI ks), ?_, d6, ⟨m0, m1⟩, ?_, fun d hd => ?_⟩
      · rw [← dD_app]; rfl
      · rw [List.map_append, nm, List.take_succ, List.getElem?_eq_getElem hi2]; rfl
      · rcases List.mem_append.mp hd with hd | hd
        · exact gd d hd
        · rw [List.mem_singleton.mp hd]
          exact ⟨n3 _ (List.getElem_mem _), (e0 _).1, (e0 _).2, h1, h2, h3, h4⟩
    · obtain ⟨xs, deeds, m, c7, c8, c9, c10, rfl, dx, ⟨m0, m1⟩, nm, gd⟩ := ih
      walk_at "go"
      intro p3
      walk_at "go"
      refine ⟨p, xs, 3, rfl, dx, ⟨by decide, by decide⟩, fun r4 xs d5 r40 r41 => ?_⟩
      walk_at "go"
      obtain ⟨z4, e4, z40, z41⟩ : ∃ z, atD [PyData.int 2, PyData.int 1, PyData.int m] r4 = some (.int z) ∧ 0 ≤ z ∧ z ≤ 16 := by
        rcases lt3 r40 r41 with rfl | rfl | rfl <;> exact ⟨_, rfl, by omega, by omega⟩
      rw [e4]
      walk_at "go"
      refine ⟨p, xs, m, z4, rfl, d5, ⟨by omega, by omega⟩, ⟨by omega, by omega⟩, fun xs bg d6 mb => ?_⟩
      walk_at "go"
      intro p4
      walk_at "go"
      refine ⟨p, xs, 4, rfl, d6, ⟨by decide, by decide⟩, fun r5 xs d7 r50 r51 => ?_⟩
      walk_at "go"
      obtain ⟨z5, e5, z50, z51⟩ : ∃ z, atD [PyData.int 1, PyData.int 2, PyData.int 3, PyData.int m] r5 = some (.int z) ∧ 0 ≤ z ∧ z ≤ 16 := by
        rcases lt4 r50 r51 with rfl | rfl | rfl | rfl <;> exact ⟨_, rfl, by omega, by omega⟩
      rw [e5]
      walk_at "go"
      refine ⟨p, xs, m, z5, rfl, d7, ⟨by omega, by omega⟩, ⟨by omega, by omega⟩, fun xs ws d8 mw => ?_⟩
      walk_at "go"
      have dl : deeds.length ≤ ns.length := by rw [← List.length_map (f := Deed.name), nm]; exact List.length_take_le' ..
      refine ⟨fun hw3 => ?_, fun hw3 => ?_⟩
      · walk_at "go"
        refine ⟨p, xs, 2, rfl, d8, ⟨by decide, by decide⟩, fun r6 xs d9 r60 r61 => ?_⟩
        walk_at "go"
        refine ⟨fun hw4 => ?_, fun hw4 => ?_⟩
        · walk_at "go"
          refine ⟨p, xs, m, rfl, d9, ⟨by omega, by omega⟩, fun xs mn g1 l1 l2 l3 => ?_⟩
          walk_at "go"
          refine ⟨p, xs, deeds.map dD, rfl, g1, by rw [List.length_map]; omega, fun xs es g2 pm => ?_⟩
          obtain ⟨ds2, rfl, pd⟩ := perm_map pm
          walk_at "go"
          subst l1
          have pl := pd.length_eq
          exact back_ow (q _ ⟨mn, ds2, [], [((mn.length : Nat) : Int) - 1]⟩ g2 (goodY_of (by omega) (by omega) l2 l3 (by omega) ((pd.map Deed.name).nodup_iff.mpr (by rw [nm]; exact n2.sublist (List.take_sublist _ _))) (fun d hd => gd d (pd.mem_iff.mp hd)) rfl (marks1 (by omega) (by omega))) (by show (mn.length : Int) ≤ u; omega) (by show (ds2.length : Int) ≤ a; omega))
        · walk_at "go"
          refine ⟨p, xs, m, rfl, d9, ⟨by omega, by omega⟩, fun xs mn g1 l1 l2 l3 => ?_⟩
          walk_at "go"
          refine ⟨p, xs, deeds.map dD, rfl, g1, by rw [List.length_map]; omega, fun xs es g2 pm => ?_⟩
          obtain ⟨ds2, rfl, pd⟩ := perm_map pm
          walk_at "go"
          subst l1
          have pl := pd.length_eq
          exact back_ow (q _ ⟨mn, ds2, bg, ws⟩ g2 (goodY_of (by omega) (by omega) l2 l3 (by omega) ((pd.map Deed.name).nodup_iff.mpr (by rw [nm]; exact n2.sublist (List.take_sublist _ _))) (fun d hd => gd d (pd.mem_iff.mp hd)) mb mw) (by show (mn.length : Int) ≤ u; omega) (by show (ds2.length : Int) ≤ a; omega))
      · walk_at "go"
        refine ⟨p, xs, m, rfl, d8, ⟨by omega, by omega⟩, fun xs mn g1 l1 l2 l3 => ?_⟩
        walk_at "go"
        refine ⟨p, xs, deeds.map dD, rfl, g1, by rw [List.length_map]; omega, fun xs es g2 pm => ?_⟩
        obtain ⟨ds2, rfl, pd⟩ := perm_map pm
        walk_at "go"
        subst l1
        have pl := pd.length_eq
        exact back_ow (q _ ⟨mn, ds2, bg, ws⟩ g2 (goodY_of (by omega) (by omega) l2 l3 (by omega) ((pd.map Deed.name).nodup_iff.mpr (by rw [nm]; exact n2.sublist (List.take_sublist _ _))) (fun d hd => gd d (pd.mem_iff.mp hd)) mb mw) (by show (mn.length : Int) ≤ u; omega) (by show (ds2.length : Int) ≤ a; omega))
  · have hw : wy ≠ 4 := of_decide_eq_false hw
    walk_at "go"
    refine ⟨fun _ => ?_, fun hw2 => absurd (of_decide_eq_false hw2) (by omega)⟩
    walk_at "go"
    refine ⟨p, xs, a + 1, rfl, d3, ⟨by omega, by omega⟩, fun r3 xs d4 r30 r31 => ?_⟩
    walk_at "go"
    refine ⟨⟨by omega, by omega, by omega, by omega, by omega⟩, ?_⟩
    walk_at "w"
    intro mf
    refine ForR.rg0 (fun (i : Nat) Γ => ∃ (xs : List Int) (deeds : List Deed) (m : Int) (c7 c8 c9 c10 : SV), Γ = [dc p xs, .fz (.int u), .fz (.int a), .fz (.int m), .fz (.int wy), .fz (.list (ns.map .str)), .ow p2 (.lst (deeds.map dD)), c7, c8, c9, c10, .no, .no] ∧ Dice xs ∧ (1 ≤ m ∧ m ≤ u) ∧ deeds.map Deed.name = ns.take i ∧ (∀ d ∈ deeds, Good1 m d))
      ⟨_, [], _, _, _, _, _, rfl, d4, ⟨by omega, by omega⟩, rfl, fun d hd => by cases hd⟩ (fun i Γ hi ih => ?_) (fun Γ ih => ?_)
    · obtain ⟨xs, deeds, m, c7, c8, c9, c10, rfl, dx, ⟨m0, m1⟩, nm, gd⟩ := ih
      have hi2 : i < ns.length := by omega
      have dl : deeds.length = i := by rw [← List.length_map (f := Deed.name), nm, List.length_take]; omega
      walk_at "go"
      refine ⟨p, xs, m, wy, i, rfl, dx, ⟨m0, by omega⟩, ⟨by omega, by omega⟩, fun xs nd ss ks d5 h1 h2 h3 h4 => ?_⟩
      walk_at "go"
      rw [atD_nat, map_gets hi2]
      walk_at "go"
      refine ⟨p, xs, rfl, d5, fun xs c d6 hc => ?_⟩
      obtain ⟨hc0, hc1⟩ := hc
      walk_at "go"
      have e0 : ∀ b : Bool, 0 ≤ (if (if b = true then (1 : Int) else 0) > c then (if b = true then (1 : Int) else 0) else c) ∧ (if (if b = true then (1 : Int) else 0) > c then (if b = true then (1 : Int) else 0) else c) ≤ 99 := fun b => by
        cases b <;> simp <;> split <;> omega
      refine ⟨by rw [List.length_map]; exact le_line (by omega), ?_⟩
      walk_at "w"
      refine ⟨xs, deeds ++ [⟨ns[i], nd, ss, ks, if (if PyData.eqv (.int wy) (.int 4) = true then (1 : Int) else 0) > c then (if PyData.eqv (.int wy) (.int 4) = true then (1 : Int) else 0) else c⟩], m, .fz (.int (i : Nat)), .fz (tI nd), .fz (tI ss), .fz (tI ks), ?_, d6, ⟨m0, m1⟩, ?_, fun d hd => ?_⟩
      · rw [← dD_app]; rfl
      · rw [List.map_append, nm, List.take_succ, List.getElem?_eq_getElem hi2]; rfl
      · rcases List.mem_append.mp hd with hd | hd
        · exact gd d hd
        · rw [List.mem_singleton.mp hd]
          exact ⟨n3 _ (List.getElem_mem _), (e0 _).1, (e0 _).2, h1, h2, h3, h4⟩
    · obtain ⟨xs, deeds, m, c7, c8, c9, c10, rfl, dx, ⟨m0, m1⟩, nm, gd⟩ := ih
      walk_at "go"
      intro p3
      walk_at "go"
      refine ⟨p, xs, 3, rfl, dx, ⟨by decide, by decide⟩, fun r4 xs d5 r40 r41 => ?_⟩
      walk_at "go"
      obtain ⟨z4, e4, z40, z41⟩ : ∃ z, atD [PyData.int 2, PyData.int 1, PyData.int m] r4 = some (.int z) ∧ 0 ≤ z ∧ z ≤ 16 := by
        rcases lt3 r40 r41 with rfl | rfl | rfl <;> exact ⟨_, rfl, by omega, by omega⟩
      rw [e4]
      walk_at "go"
      refine ⟨p, xs, m, z4, rfl, d5, ⟨by omega, by omega⟩, ⟨by omega, by omega⟩, fun xs bg d6 mb => ?_⟩
      walk_at "go"
      intro p4
      walk_at "go"
      refine ⟨p, xs, 4, rfl, d6, ⟨by decide, by decide⟩, fun r5 xs d7 r50 r51 => ?_⟩
      walk_at "go"
      obtain ⟨z5, e5, z50, z51⟩ : ∃ z, atD [PyData.int 1, PyData.int 2, PyData.int 3, PyData.int m] r5 = some (.int z) ∧ 0 ≤ z ∧ z ≤ 16 := by
        rcases lt4 r50 r51 with rfl | rfl | rfl | rfl <;> exact ⟨_, rfl, by omega, by omega⟩
      rw [e5]
      walk_at "go"
      refine ⟨p, xs, m, z5, rfl, d7, ⟨by omega, by omega⟩, ⟨by omega, by omega⟩, fun xs ws d8 mw => ?_⟩
      walk_at "go"
      have dl : deeds.length ≤ ns.length := by rw [← List.length_map (f := Deed.name), nm]; exact List.length_take_le' ..
      refine ⟨fun hw3 => ?_, fun hw3 => ?_⟩
      · walk_at "go"
        refine ⟨p, xs, 2, rfl, d8, ⟨by decide, by decide⟩, fun r6 xs d9 r60 r61 => ?_⟩
        walk_at "go"
        refine ⟨fun hw4 => ?_, fun hw4 => ?_⟩
        · walk_at "go"
          refine ⟨p, xs, m, rfl, d9, ⟨by omega, by omega⟩, fun xs mn g1 l1 l2 l3 => ?_⟩
          walk_at "go"
          refine ⟨p, xs, deeds.map dD, rfl, g1, by rw [List.length_map]; omega, fun xs es g2 pm => ?_⟩
          obtain ⟨ds2, rfl, pd⟩ := perm_map pm
          walk_at "go"
          subst l1
          have pl := pd.length_eq
          exact back_ow (q _ ⟨mn, ds2, [], [((mn.length : Nat) : Int) - 1]⟩ g2 (goodY_of (by omega) (by omega) l2 l3 (by omega) ((pd.map Deed.name).nodup_iff.mpr (by rw [nm]; exact n2.sublist (List.take_sublist _ _))) (fun d hd => gd d (pd.mem_iff.mp hd)) rfl (marks1 (by omega) (by omega))) (by show (mn.length : Int) ≤ u; omega) (by show (ds2.length : Int) ≤ a; omega))
        · walk_at "go"
          refine ⟨p, xs, m, rfl, d9, ⟨by omega, by omega⟩, fun xs mn g1 l1 l2 l3 => ?_⟩
          walk_at "go"
          refine ⟨p, xs, deeds.map dD, rfl, g1, by rw [List.length_map]; omega, fun xs es g2 pm => ?_⟩
          obtain ⟨ds2, rfl, pd⟩ := perm_map pm
          walk_at "go"
          subst l1
          have pl := pd.length_eq
          exact back_ow (q _ ⟨mn, ds2, bg, ws⟩ g2 (goodY_of (by omega) (by omega) l2 l3 (by omega) ((pd.map Deed.name).nodup_iff.mpr (by rw [nm]; exact n2.sublist (List.take_sublist _ _))) (fun d hd => gd d (pd.mem_iff.mp hd)) mb mw) (by show (mn.length : Int) ≤ u; omega) (by show (ds2.length : Int) ≤ a; omega))
      · walk_at "go"
        refine ⟨p, xs, m, rfl, d8, ⟨by omega, by omega⟩, fun xs mn g1 l1 l2 l3 => ?_⟩
        walk_at "go"
        refine ⟨p, xs, deeds.map dD, rfl, g1, by rw [List.length_map]; omega, fun xs es g2 pm => ?_⟩
        obtain ⟨ds2, rfl, pd⟩ := perm_map pm
        walk_at "go"
        subst l1
        have pl := pd.length_eq
        exact back_ow (q _ ⟨mn, ds2, bg, ws⟩ g2 (goodY_of (by omega) (by omega) l2 l3 (by omega) ((pd.map Deed.name).nodup_iff.mpr (by rw [nm]; exact n2.sublist (List.take_sublist _ _))) (fun d hd => gd d (pd.mem_iff.mp hd)) mb mw) (by show (mn.length : Int) ≤ u; omega) (by show (ds2.length : Int) ≤ a; omega))

end
end K
/-! M4: what comes about, by the law's own way: lists that do not rise. -/
namespace K
open PySem DL L2
theorem nodup_len {xs : List Int} {n : Nat} (h : xs.Nodup) (h2 : ∀ x ∈ xs, 0 ≤ x ∧ x < (n : Int)) : xs.length ≤ n := by
  let ys := xs.mergeSort (fun a b => decide (a ≤ b))
  have p : ys.Perm xs := List.mergeSort_perm _ _
  have s : ys.Pairwise (fun a b => decide (a ≤ b) = true) := List.pairwise_mergeSort (le := fun a b => decide (a ≤ b)) (fun a b c h1 h2 => by simp only [decide_eq_true_iff] at *; omega) (fun a b => by simp only [Bool.or_eq_true, decide_eq_true_iff]; omega) xs
  have s2 : ys.Pairwise (· < ·) := up_of (s.imp fun h => of_decide_eq_true h) (p.nodup_iff.mpr h)
  have := rise_len s2 (fun x hx => h2 x (p.mem_iff.mp hx)) (by omega)
  rw [← p.length_eq]
  omega
structure OkN (n : Nat) (b : List Int) (ds : List Deed) (lo : List Int) (R : List Int) : Prop where
  nd : R.Nodup
  rg : ∀ x ∈ R, 0 ≤ x ∧ x < (n : Int)
  lo' : ∀ x ∈ b, x ∈ R
  hi : ∀ x ∈ R, Comes b ds lo x
theorem OkN.len {n : Nat} {b : List Int} {ds : List Deed} {lo R : List Int} (h : OkN n b ds lo R) : R.length ≤ n := nodup_len h.nd h.rg
theorem OkN.step {n : Nat} {b : List Int} {ds : List Deed} {lo R : List Int} {k : Nat} {d : Deed} (h : OkN n b ds lo R) (e : ds[k]? = some d) (hk : ((k : Nat) : Int) ∉ lo) (hn : ∀ m, m ∈ d.needs → m ∈ R) (hs : areMarks d.sets (n : Int) = true) :
    OkN n b ds lo (R ++ d.sets.filter fun m => !decide (m ∈ R)) := by
  obtain ⟨s1, s2⟩ := areMarks_iff.mp hs
  have mf : ∀ x, x ∈ (d.sets.filter fun m => !decide (m ∈ R)) ↔ x ∈ d.sets ∧ x ∉ R := fun x => by rw [List.mem_filter]; simp
  refine ⟨List.nodup_append.mpr ⟨h.nd, (nodup_up s1).sublist List.filter_sublist, fun a ha b hb hab => ?_⟩, fun x hx => ?_, fun x hx => List.mem_append_left _ (h.lo' x hx), fun x hx => ?_⟩
  · subst hab
    exact ((mf _).mp hb).2 ha
  · rcases List.mem_append.mp hx with z | z
    · exact h.rg x z
    · exact s2 x ((mf _).mp z).1
  · rcases List.mem_append.mp hx with z | z
    · exact h.hi x z
    · exact .deed e hk (fun m hm => h.hi m (hn m hm)) ((mf _).mp z).1
/-- what the law's own _law_alike looks at: data of a depth, no dicts -/
inductive Al : Nat → D → Prop
  | non {n : Nat} : Al (n + 1) .none
  | bl {n : Nat} {b : Bool} : Al (n + 1) (.bool b)
  | int {n : Nat} {i : Int} : Al (n + 1) (.int i)
  | str {n : Nat} {z : Str} : Al (n + 1) (.str z)
  | tup {n : Nat} {ds : List D} : ds.length ≤ 1000 → (∀ d ∈ ds, Al n d) → Al (n + 1) (.tuple ds)
  | lst {n : Nat} {ds : List D} : ds.length ≤ 1000 → (∀ d ∈ ds, Al n d) → Al (n + 1) (.list ds)
theorem comes_mono {b : List Int} {ds : List Deed} {lo lo2 : List Int} (h : ∀ k : Int, k ∉ lo2 → k ∉ lo) {m : Int} (c : Comes b ds lo2 m) : Comes b ds lo m := by
  induction c with
  | start h1 => exact .start h1
  | deed e n _ hm ih => exact .deed e (h _ n) ih hm
theorem comes_none {b : List Int} {ds : List Deed} {lo : List Int} (h : ∀ k : Nat, k < ds.length → ((k : Nat) : Int) ∈ lo) {m : Int} : Comes b ds lo m ↔ m ∈ b := by
  constructor
  · intro c
    cases c with
    | start h1 => exact h1
    | deed e n _ _ => exact absurd (h _ (List.getElem?_eq_some_iff.mp e).1) n
  · exact .start
end K
namespace K
open PySem PySem.Spec PyProof.Rows L2 DL
local macro_rules | `(tactic| walk_at "w") => `(tactic| conv => whnf)
local macro_rules | `(tactic| walk_at "side") => `(tactic| first | rfl | exact True.intro | assumption | exact shal_nil | exact shal_int | exact shal_bool | exact shal_str | exact flat_ints _ | exact flat_strs _ | omega | exact le_line (Nat.le_of_ble_eq_true rfl))
local macro_rules | `(tactic| walk_at "lc") => `(tactic| first | exact ⟨rfl, fun _ => ⟨rfl, rfl⟩, fun _ => rfl⟩ | exact ⟨rfl, fun _ => ⟨rfl, rfl⟩, fun z => (by cases z)⟩ | exact ⟨fun _ => ⟨rfl, rfl⟩, fun _ => rfl⟩ | exact ⟨fun _ => ⟨rfl, rfl⟩, fun z => (by cases z)⟩)
local macro_rules | `(tactic| walk_at "lch") => `(tactic| first | exact ⟨by simp [*], fun _ => ⟨rfl, rfl⟩, fun _ => rfl⟩ | exact ⟨by simp [*], fun z => (by cases z), fun _ => rfl⟩ | exact ⟨by simp [*], fun _ => ⟨rfl, rfl⟩, fun z => (by cases z)⟩)
local macro_rules | `(tactic| walk_at "go") => `(tactic| (walk_at "w"; repeat ((first | (refine And.intro ?left ?_; (case left => walk_at "side")) | (refine Br.t ?_) | (refine Br.f ?_)); walk_at "w")))
section
variable {P : Program} {w : World} {K : PySem.W.Frag} {mg : Str → Option Value} {base : Heap}
abbrev s__law_has : Stmt := topS 28
abbrev N__law_has : List Str := ["_law_state", "_law_some_here", "_law_mark"]
theorem sc__law_has : FnScope N__law_has ["_law_state", "_law_some_here"] (defScope s__law_has) := ⟨rfl, rfl, rfl, by decide +kernel, rfl, by decide +kernel, by decide +kernel⟩
def sp_lhas : SpD := fun Γ Q _ => ∃ (st : D) (R sm : List Int), Γ = [.fz st, .fz (tI sm)] ∧ (st = tI R ∨ st = lI R) ∧ Q (.fz (.bool (sm.all fun m => decide (m ∈ R)))) Γ
theorem ms_lhas : MonoSp sp_lhas := fun Γ Q Q' E E' h _ ⟨st, R, sm, e, g, q⟩ => ⟨st, R, sm, e, g, h _ _ q⟩
theorem ok_lhas {f : Addr} {fd : FuncData} (F : Fun K "_law_has" "_law_has" s__law_has f fd) (B : Bl mg) : FnOk P w K mg base CX0 1 f fd ["_law_state", "_law_some_here"] (liftSp K 2 sp_lhas) := by
  refine fnd F sc__law_has 2 rfl ms_lhas (fun X cdv A outer s H E hX hr => ?_)
  subst hX
  have hu := hu64 hr
  refine ⟨_, (pds_one (pd_ret (pd_cmp (od_eq hu) (pd_lc [("_law_mark", 2)] rfl sc__law_has.nd (pid_seq (pdv 1)) (blkOk_by (N := N__law_has) (sc := defScope s__law_has) (by decide +kernel)) (fun _ _ _ _ _ => pgc_name 2 sc__law_has.nd) (fun _ _ _ _ _ => pbs_one (pb_cmp od_notIn (pdv 2) (pdv 0))) (fun _ _ _ _ _ => (pdv 2))) (pd_lst pad_nil)))), fun Γ Q E' hl hsp => ?_⟩
  obtain ⟨st, R, sm, rfl, rfl | rfl, q⟩ := hsp
  all_goals
    walk_at "w"
    intro mc
    refine LcR.ints mc (fun m => !decide (m ∈ R)) .int trivial (fun x hx => ?_) (fun a => ?_)
    · walk_at "go"
      rw [isIn_ints]
      walk_at "lc"
    · walk_at "w"
      intro b
      walk_at "go"
      rw [eqv_nil, isEmpty_map, isEmpty_filter]
      simp only [Bool.not_not]
      exact q

end
end K
namespace K
open PySem PySem.Spec PyProof.Rows L2 DL
local macro_rules | `(tactic| walk_at "w") => `(tactic| conv => whnf)
local macro_rules | `(tactic| walk_at "side") => `(tactic| first | rfl | exact True.intro | assumption | exact shal_nil | exact shal_int | exact shal_bool | exact shal_str | exact flat_ints _ | exact flat_strs _ | omega | exact le_line (Nat.le_of_ble_eq_true rfl))
local macro_rules | `(tactic| walk_at "lc") => `(tactic| first | exact ⟨rfl, fun _ => ⟨rfl, rfl⟩, fun _ => rfl⟩ | exact ⟨rfl, fun _ => ⟨rfl, rfl⟩, fun z => (by cases z)⟩ | exact ⟨fun _ => ⟨rfl, rfl⟩, fun _ => rfl⟩ | exact ⟨fun _ => ⟨rfl, rfl⟩, fun z => (by cases z)⟩)
local macro_rules | `(tactic| walk_at "lch") => `(tactic| first | exact ⟨by simp [*], fun _ => ⟨rfl, rfl⟩, fun _ => rfl⟩ | exact ⟨by simp [*], fun z => (by cases z), fun _ => rfl⟩ | exact ⟨by simp [*], fun _ => ⟨rfl, rfl⟩, fun z => (by cases z)⟩)
local macro_rules | `(tactic| walk_at "go") => `(tactic| (walk_at "w"; repeat ((first | (refine And.intro ?left ?_; (case left => walk_at "side")) | (refine Br.t ?_) | (refine Br.f ?_)); walk_at "w")))
section
variable {P : Program} {w : World} {K : PySem.W.Frag} {mg : Str → Option Value} {base : Heap}
abbrev s__law_alike : Stmt := topS 21
abbrev N__law_alike : List Str := ["_law_found", "_law_due", "_law_key", "_law_k"]
theorem sc__law_alike : FnScope N__law_alike ["_law_found", "_law_due"] (defScope s__law_alike) := ⟨rfl, rfl, rfl, by decide +kernel, rfl, by decide +kernel, by decide +kernel⟩
def spAl (n : Nat) : SpD := fun Γ Q _ => ∃ d : D, Γ = [.fz d, .fz d] ∧ Al n d ∧ Q (.fz (.bool true)) Γ
theorem msAl (n : Nat) : MonoSp (spAl n) := fun Γ Q Q' E E' h _ ⟨d, e, g, q⟩ => ⟨d, e, g, h _ _ q⟩
theorem ok_alike {f : Addr} {fd : FuncData} {n : Nat} (F : Fun K "_law_alike" "_law_alike" s__law_alike f fd) (B : Bl mg) (D__law_alike : DefOk P w K mg base n "_law_alike" ["_law_found", "_law_due"] 2 (spAl n)) : FnOk P w K mg base CX0 (n + 1) f fd ["_law_found", "_law_due"] (liftSp K 2 (spAl (n + 1))) := by
  refine fnd F sc__law_alike 2 rfl (msAl _) (fun X cdv A outer s H E hX hr => ?_)
  subst hX
  have hu := hu64 hr
  refine ⟨_, (pds_cons (pd_if (pb_cmp od_is (pdv 1) pd_non) (pds_one (pd_ret (pd_cmp od_is (pdv 0) pd_non))) pds_nil)
 (pds_cons (pd_if (pb_val (pd_is .bool rfl B.isinstance rfl B.bool bt_bool (pdv 1))) (pds_one (pd_ret (pd_and (pd_is .bool rfl B.isinstance rfl B.bool bt_bool (pdv 0)) (pd_one (pd_cmp (od_eq hu) (pdv 0) (pdv 1)))))) pds_nil)
 (pds_cons (pd_if (pb_val (pd_is .int rfl B.isinstance rfl B.int bt_int (pdv 1))) (pds_one (pd_ret (pd_and (pd_is .int rfl B.isinstance rfl B.int bt_int (pdv 0)) (pd_and (pd_not (pd_is .bool rfl B.isinstance rfl B.bool bt_bool (pdv 0))) (pd_one (pd_cmp (od_eq hu) (pdv 0) (pdv 1))))))) pds_nil)
 (pds_cons (pd_if (pb_val (pd_is .str rfl B.isinstance rfl B.str bt_str (pdv 1))) (pds_one (pd_ret (pd_and (pd_is .str rfl B.isinstance rfl B.str bt_str (pdv 0)) (pd_one (pd_cmp (od_eq hu) (pdv 0) (pdv 1)))))) pds_nil)
 (pds_cons (pd_if (pb_val (pd_is .dict rfl B.isinstance rfl B.dict bt_dict (pdv 1))) (pds_cons (pd_if (PBW.pb (pbw_or (pb_not (pb_val (pd_is .dict rfl B.isinstance rfl B.dict bt_dict (pdv 0)))) (pbw_or1 (pb_cmp (od_ne hu) (pd_callB cd_len rfl B.len bt_len (pad_cons (pdv 0) pad_nil)) (pd_callB cd_len rfl B.len bt_len (pad_cons (pdv 1) pad_nil)))))) (pds_one (pd_ret pd_bl)) pds_nil)
 (pds_one (pd_ret (pd_cmp (od_eq hu) (pd_lc [("_law_key", 2)] rfl sc__law_alike.nd (pid_seq (pdv 1)) (blkOk_by (N := N__law_alike) (sc := defScope s__law_alike) (by decide +kernel)) (fun _ _ _ _ _ => pgc_name 2 sc__law_alike.nd) (fun _ _ _ _ _ => pbs_one (PBW.pb (pbw_or (pb_cmp od_notIn (pdv 2) (pdv 0)) (pbw_or1 (pb_not (pb_val (pd_def D__law_alike hr (pad_cons (pd_ix (pdv 0) (pdv 2)) (pad_cons (pd_ix (pdv 1) (pdv 2)) pad_nil))))))))) (fun _ _ _ _ _ => (pdv 2))) (pd_lst pad_nil))))) pds_nil)
 (pds_cons (pd_if (PBW.pb (pbw_or (pb_cmp (od_ne hu) (pd_is .tuple rfl B.isinstance rfl B.tuple bt_tuple (pdv 1)) (pd_is .tuple rfl B.isinstance rfl B.tuple bt_tuple (pdv 0))) (pbw_or1 (pb_cmp (od_ne hu) (pd_is .list rfl B.isinstance rfl B.list bt_list (pdv 1)) (pd_is .list rfl B.isinstance rfl B.list bt_list (pdv 0)))))) (pds_one (pd_ret pd_bl)) pds_nil)
 (pds_cons (pd_if (pb_cmp (od_ne hu) (pd_callB cd_len rfl B.len bt_len (pad_cons (pdv 0) pad_nil)) (pd_callB cd_len rfl B.len bt_len (pad_cons (pdv 1) pad_nil))) (pds_one (pd_ret pd_bl)) pds_nil)
 (pds_one (pd_ret (pd_cmp (od_eq hu) (pd_lc [("_law_k", 3)] rfl sc__law_alike.nd (pid_rg1 rfl B.range (pd_callB cd_len rfl B.len bt_len (pad_cons (pdv 1) pad_nil))) (blkOk_by (N := N__law_alike) (sc := defScope s__law_alike) (by decide +kernel)) (fun _ _ _ _ _ => pgc_name 3 sc__law_alike.nd) (fun _ _ _ _ _ => pbs_one (pb_not (pb_val (pd_def D__law_alike hr (pad_cons (pd_ix (pdv 0) (pdv 3)) (pad_cons (pd_ix (pdv 1) (pdv 3)) pad_nil)))))) (fun _ _ _ _ _ => (pdv 3))) (pd_lst pad_nil))))))))))), fun Γ Q E' hl hsp => ?_⟩
  obtain ⟨d, rfl, al, q⟩ := hsp
  cases al with
  | non => walk_at "go"; exact q
  | bl => walk_at "go"; rw [eqv_bool, decide_eq_true rfl]; exact q
  | int => walk_at "go"; rw [eqv_int, decide_eq_true rfl]; exact q
  | str => walk_at "go"; rw [eqv_str, decide_eq_true rfl]; exact q
  | @tup _ ds h1 h2 =>
    walk_at "go"
    rw [eqv_int, decide_eq_true rfl]
    walk_at "go"
    refine ⟨RgOk.of_le (by decide) (by omega) (by decide) (by omega), ?_⟩
    walk_at "w"
    rw [rgD_ints]
    intro mc
    refine LcR.ints mc (fun _ => false) .int trivial (fun x hx => ?_) (fun a => ?_)
    · obtain ⟨x0, x1⟩ := rgI_mem.mp hx
      obtain ⟨j, rfl⟩ : ∃ j : Nat, x = (j : Int) := ⟨x.toNat, by omega⟩
      have hj : j < ds.length := by omega
      walk_at "go"
      rw [atD_nat, List.getElem?_eq_getElem hj]
      walk_at "go"
      rw [atD_nat, List.getElem?_eq_getElem hj]
      walk_at "go"
      refine ⟨_, rfl, h2 _ (List.getElem_mem hj), ?_⟩
      walk_at "go"
      walk_at "lc"
    · walk_at "w"
      intro b
      walk_at "go"
      rw [eqv_nil, isEmpty_map, isEmpty_filter]
      simp only [Bool.not_false, List.all_eq_true.mpr (fun _ _ => rfl)]
      exact q
  | @lst _ ds h1 h2 =>
    walk_at "go"
    rw [eqv_int, decide_eq_true rfl]
    walk_at "go"
    refine ⟨RgOk.of_le (by decide) (by omega) (by decide) (by omega), ?_⟩
    walk_at "w"
    rw [rgD_ints]
    intro mc
    refine LcR.ints mc (fun _ => false) .int trivial (fun x hx => ?_) (fun a => ?_)
    · obtain ⟨x0, x1⟩ := rgI_mem.mp hx
      obtain ⟨j, rfl⟩ : ∃ j : Nat, x = (j : Int) := ⟨x.toNat, by omega⟩
      have hj : j < ds.length := by omega
      walk_at "go"
      rw [atD_nat, List.getElem?_eq_getElem hj]
      walk_at "go"
      rw [atD_nat, List.getElem?_eq_getElem hj]
      walk_at "go"
      refine ⟨_, rfl, h2 _ (List.getElem_mem hj), ?_⟩
      walk_at "go"
      walk_at "lc"
    · walk_at "w"
      intro b
      walk_at "go"
      rw [eqv_nil, isEmpty_map, isEmpty_filter]
      simp only [Bool.not_false, List.all_eq_true.mpr (fun _ _ => rfl)]
      exact q

end
end K
namespace K
open PySem PySem.Spec PyProof.Rows L2 DL
local macro_rules | `(tactic| walk_at "w") => `(tactic| conv => whnf)
local macro_rules | `(tactic| walk_at "side") => `(tactic| first | rfl | exact True.intro | assumption | exact shal_nil | exact shal_int | exact shal_bool | exact shal_str | exact flat_ints _ | exact flat_strs _ | omega | exact le_line (Nat.le_of_ble_eq_true rfl))
local macro_rules | `(tactic| walk_at "lc") => `(tactic| first | exact ⟨rfl, fun _ => ⟨rfl, rfl⟩, fun _ => rfl⟩ | exact ⟨rfl, fun _ => ⟨rfl, rfl⟩, fun z => (by cases z)⟩ | exact ⟨fun _ => ⟨rfl, rfl⟩, fun _ => rfl⟩ | exact ⟨fun _ => ⟨rfl, rfl⟩, fun z => (by cases z)⟩)
local macro_rules | `(tactic| walk_at "lch") => `(tactic| first | exact ⟨by simp [*], fun _ => ⟨rfl, rfl⟩, fun _ => rfl⟩ | exact ⟨by simp [*], fun z => (by cases z), fun _ => rfl⟩ | exact ⟨by simp [*], fun _ => ⟨rfl, rfl⟩, fun z => (by cases z)⟩)
local macro_rules | `(tactic| walk_at "go") => `(tactic| (walk_at "w"; repeat ((first | (refine And.intro ?left ?_; (case left => walk_at "side")) | (refine Br.t ?_) | (refine Br.f ?_)); walk_at "w")))
section
variable {P : Program} {w : World} {K : PySem.W.Frag} {mg : Str → Option Value} {base : Heap}
def spAlO (n : Nat) : SpD := fun Γ Q _ => ∃ (p : Addr) (ds : List D), Γ = [.ow p (.lst ds), .fz (.list ds)] ∧ ds.length ≤ 1000 ∧ (∀ d ∈ ds, Al n d) ∧ Q (.fz (.bool true)) Γ
theorem msAlO (n : Nat) : MonoSp (spAlO n) := fun Γ Q Q' E E' h _ ⟨p, ds, e, g1, g2, q⟩ => ⟨p, ds, e, g1, g2, h _ _ q⟩
--AS D__law_alikeO
theorem ok_alikeO {f : Addr} {fd : FuncData} {n : Nat} (F : Fun K "_law_alike" "_law_alike" s__law_alike f fd) (B : Bl mg) (D__law_alike : DefOk P w K mg base n "_law_alike" ["_law_found", "_law_due"] 2 (spAl n)) : FnOk P w K mg base CX0 (n + 1) f fd ["_law_found", "_law_due"] (liftSp K 2 (spAlO n)) := by
  refine fnd F sc__law_alike 2 rfl (msAlO _) (fun X cdv A outer s H E hX hr => ?_)
  subst hX
  have hu := hu64 hr
  refine ⟨_, (pds_cons (pd_if (pb_cmp od_is (pdv 1) pd_non) (pds_one (pd_ret (pd_cmp od_is (pdv 0) pd_non))) pds_nil)
 (pds_cons (pd_if (pb_val (pd_is .bool rfl B.isinstance rfl B.bool bt_bool (pdv 1))) (pds_one (pd_ret (pd_and (pd_is .bool rfl B.isinstance rfl B.bool bt_bool (pdv 0)) (pd_one (pd_cmp (od_eq hu) (pdv 0) (pdv 1)))))) pds_nil)
 (pds_cons (pd_if (pb_val (pd_is .int rfl B.isinstance rfl B.int bt_int (pdv 1))) (pds_one (pd_ret (pd_and (pd_is .int rfl B.isinstance rfl B.int bt_int (pdv 0)) (pd_and (pd_not (pd_is .bool rfl B.isinstance rfl B.bool bt_bool (pdv 0))) (pd_one (pd_cmp (od_eq hu) (pdv 0) (pdv 1))))))) pds_nil)
 (pds_cons (pd_if (pb_val (pd_is .str rfl B.isinstance rfl B.str bt_str (pdv 1))) (pds_one (pd_ret (pd_and (pd_is .str rfl B.isinstance rfl B.str bt_str (pdv 0)) (pd_one (pd_cmp (od_eq hu) (pdv 0) (pdv 1)))))) pds_nil)
 (pds_cons (pd_if (pb_val (pd_is .dict rfl B.isinstance rfl B.dict bt_dict (pdv 1))) (pds_cons (pd_if (PBW.pb (pbw_or (pb_not (pb_val (pd_is .dict rfl B.isinstance rfl B.dict bt_dict (pdv 0)))) (pbw_or1 (pb_cmp (od_ne hu) (pd_callB cd_len rfl B.len bt_len (pad_cons (pdv 0) pad_nil)) (pd_callB cd_len rfl B.len bt_len (pad_cons (pdv 1) pad_nil)))))) (pds_one (pd_ret pd_bl)) pds_nil)
 (pds_one (pd_ret (pd_cmp (od_eq hu) (pd_lc [("_law_key", 2)] rfl sc__law_alike.nd (pid_seq (pdv 1)) (blkOk_by (N := N__law_alike) (sc := defScope s__law_alike) (by decide +kernel)) (fun _ _ _ _ _ => pgc_name 2 sc__law_alike.nd) (fun _ _ _ _ _ => pbs_one (PBW.pb (pbw_or (pb_cmp od_notIn (pdv 2) (pdv 0)) (pbw_or1 (pb_not (pb_val (pd_def D__law_alike hr (pad_cons (pd_ix (pdv 0) (pdv 2)) (pad_cons (pd_ix (pdv 1) (pdv 2)) pad_nil))))))))) (fun _ _ _ _ _ => (pdv 2))) (pd_lst pad_nil))))) pds_nil)
 (pds_cons (pd_if (PBW.pb (pbw_or (pb_cmp (od_ne hu) (pd_is .tuple rfl B.isinstance rfl B.tuple bt_tuple (pdv 1)) (pd_is .tuple rfl B.isinstance rfl B.tuple bt_tuple (pdv 0))) (pbw_or1 (pb_cmp (od_ne hu) (pd_is .list rfl B.isinstance rfl B.list bt_list (pdv 1)) (pd_is .list rfl B.isinstance rfl B.list bt_list (pdv 0)))))) (pds_one (pd_ret pd_bl)) pds_nil)
 (pds_cons (pd_if (pb_cmp (od_ne hu) (pd_callB cd_len rfl B.len bt_len (pad_cons (pdv 0) pad_nil)) (pd_callB cd_len rfl B.len bt_len (pad_cons (pdv 1) pad_nil))) (pds_one (pd_ret pd_bl)) pds_nil)
 (pds_one (pd_ret (pd_cmp (od_eq hu) (pd_lc [("_law_k", 3)] rfl sc__law_alike.nd (pid_rg1 rfl B.range (pd_callB cd_len rfl B.len bt_len (pad_cons (pdv 1) pad_nil))) (blkOk_by (N := N__law_alike) (sc := defScope s__law_alike) (by decide +kernel)) (fun _ _ _ _ _ => pgc_name 3 sc__law_alike.nd) (fun _ _ _ _ _ => pbs_one (pb_not (pb_val (pd_def D__law_alike hr (pad_cons (pd_ix (pdv 0) (pdv 3)) (pad_cons (pd_ix (pdv 1) (pdv 3)) pad_nil)))))) (fun _ _ _ _ _ => (pdv 3))) (pd_lst pad_nil))))))))))), fun Γ Q E' hl hsp => ?_⟩
  obtain ⟨p, ds, rfl, h1, h2, q⟩ := hsp
  walk_at "go"
  rw [eqv_int, decide_eq_true rfl]
  walk_at "go"
  refine ⟨RgOk.of_le (by decide) (by omega) (by decide) (by omega), ?_⟩
  walk_at "w"
  rw [rgD_ints]
  intro mc
  refine LcR.ints mc (fun _ => false) .int trivial (fun x hx => ?_) (fun a => ?_)
  · obtain ⟨x0, x1⟩ := rgI_mem.mp hx
    obtain ⟨j, rfl⟩ : ∃ j : Nat, x = (j : Int) := ⟨x.toNat, by omega⟩
    have hj : j < ds.length := by omega
    walk_at "go"
    rw [atD_nat, List.getElem?_eq_getElem hj]
    walk_at "go"
    rw [atD_nat, List.getElem?_eq_getElem hj]
    walk_at "go"
    refine ⟨_, rfl, h2 _ (List.getElem_mem hj), ?_⟩
    walk_at "go"
    walk_at "lc"
  · walk_at "w"
    intro b
    walk_at "go"
    rw [eqv_nil, isEmpty_map, isEmpty_filter]
    simp only [Bool.not_false, List.all_eq_true.mpr (fun _ _ => rfl)]
    exact back_ow q

end
end K
/-! M5: weights of marks; what a deed may take away at most; all states. -/
namespace K
open PySem DL L2
def wAt (ws : List Int) (m : Int) : Int := ws.getD m.toNat 0
def wSum (ws : List Int) (st : List Int) : Int := (st.map (wAt ws)).sum
def pos0 (x : Int) : Int := if x > 0 then x else 0
def fallS (d : Deed) (ws : List Int) : Int := (d.strikes.map fun m => if m ∈ d.needs then wAt ws m else pos0 (wAt ws m)).sum
def fallT (d : Deed) (ws : List Int) : Int := (d.sets.map fun m => if m ∈ d.needs then 0 else pos0 (0 - wAt ws m)).sum
def fallD (d : Deed) (ws : List Int) : Int := fallS d ws + fallT d ws
/-- all states of n marks, as the law makes them -/
def every : Nat → List (List Int)
  | 0 => [[]]
  | n + 1 => every n ++ (every n).map fun r => r ++ [((n : Nat) : Int)]
theorem every_mem : ∀ {n : Nat} {r : List Int}, r ∈ every n ↔ r.Pairwise (· < ·) ∧ ∀ x ∈ r, 0 ≤ x ∧ x < (n : Int)
  | 0, r => by
    show r ∈ [[]] ↔ _
    rw [List.mem_singleton]
    constructor
    · rintro rfl
      exact ⟨.nil, fun x hx => by cases hx⟩
    · rintro ⟨_, h⟩
      cases r with
      | nil => rfl
      | cons x r => have := h x List.mem_cons_self; omega
  | n + 1, r => by
    show r ∈ every n ++ (every n).map _ ↔ _
    rw [List.mem_append, List.mem_map, every_mem]
    constructor
    · rintro (⟨h1, h2⟩ | ⟨q, hq, rfl⟩)
      · exact ⟨h1, fun x hx => by have := h2 x hx; omega⟩
      · obtain ⟨h1, h2⟩ := every_mem.mp hq
        refine ⟨List.pairwise_append.mpr ⟨h1, List.pairwise_singleton _ _, fun a ha b hb => ?_⟩, fun x hx => ?_⟩
        · rw [List.mem_singleton.mp hb]
          exact (h2 a ha).2
        · rcases List.mem_append.mp hx with hx | hx
          · have := h2 x hx; omega
          · rw [List.mem_singleton.mp hx]; omega
    · rintro ⟨h1, h2⟩
      by_cases hn : ((n : Nat) : Int) ∈ r
      · right
        refine ⟨r.filter fun x => decide (x < (n : Int)), every_mem.mpr ⟨h1.filter _, fun x hx => ?_⟩, ?_⟩
        · obtain ⟨a, b⟩ := List.mem_filter.mp hx
          have := h2 x a
          have := of_decide_eq_true b
          omega
        · refine rise_eq (List.pairwise_append.mpr ⟨h1.filter _, List.pairwise_singleton _ _, fun a ha b hb => ?_⟩) h1 fun k => ?_
          · rw [List.mem_singleton.mp hb]
            exact of_decide_eq_true (List.mem_filter.mp ha).2
          · rw [List.mem_append, List.mem_filter, List.mem_singleton, decide_eq_true_iff]
            constructor
            · rintro (h | h)
              · exact h.1
              · rw [h]; exact hn
            · intro h
              have := h2 k h
              by_cases e : k = (n : Int)
              · exact .inr e
              · exact .inl ⟨h, by omega⟩
      · left
        refine ⟨h1, fun x hx => ?_⟩
        have := h2 x hx
        by_cases e : x = (n : Int)
        · subst e; exact absurd hx hn
        · omega
theorem enum_range (ws : List Int) : enumD 0 (ws.map PyData.int) = (List.range ws.length).map fun i => PyData.tuple [.int ((i : Nat) : Int), .int (wAt ws (i : Nat))] := by
  apply List.ext_getElem?
  intro i
  rw [List.getElem?_map]
  by_cases h : i < ws.length
  · rw [List.getElem?_range h]
    have hl : i < (enumD 0 (ws.map PyData.int)).length := by rw [enumD_len, List.length_map]; exact h
    rw [List.getElem?_eq_getElem hl]
    obtain ⟨d, h1, h2⟩ := enum0 (List.getElem?_eq_getElem hl)
    obtain ⟨v, h3, rfl⟩ := map_at h1
    rw [h2]
    show some (PyData.tuple [.int (i : Nat), .int v]) = some (PyData.tuple [.int (i : Nat), .int (ws.getD (((i : Nat) : Int)).toNat 0)])
    rw [Int.toNat_natCast, List.getD_eq_getElem?_getD, h3]
    rfl
  · have h1 : (enumD 0 (ws.map PyData.int)).length ≤ i := by rw [enumD_len, List.length_map]; omega
    have h2 : (List.range ws.length).length ≤ i := by rw [List.length_range]; omega
    rw [List.getElem?_eq_none h1, List.getElem?_eq_none h2]
    rfl
end K
namespace K
open PySem PySem.Spec PyProof.Rows L2 DL
local macro_rules | `(tactic| walk_at "w") => `(tactic| conv => whnf)
local macro_rules | `(tactic| walk_at "side") => `(tactic| first | rfl | exact True.intro | assumption | exact shal_nil | exact shal_int | exact shal_bool | exact shal_str | exact flat_ints _ | exact flat_strs _ | omega | exact le_line (Nat.le_of_ble_eq_true rfl))
local macro_rules | `(tactic| walk_at "lc") => `(tactic| first | exact ⟨rfl, fun _ => ⟨rfl, rfl⟩, fun _ => rfl⟩ | exact ⟨rfl, fun _ => ⟨rfl, rfl⟩, fun z => (by cases z)⟩ | exact ⟨fun _ => ⟨rfl, rfl⟩, fun _ => rfl⟩ | exact ⟨fun _ => ⟨rfl, rfl⟩, fun z => (by cases z)⟩)
local macro_rules | `(tactic| walk_at "lch") => `(tactic| first | exact ⟨by simp [*], fun _ => ⟨rfl, rfl⟩, fun _ => rfl⟩ | exact ⟨by simp [*], fun z => (by cases z), fun _ => rfl⟩ | exact ⟨by simp [*], fun _ => ⟨rfl, rfl⟩, fun z => (by cases z)⟩)
local macro_rules | `(tactic| walk_at "go") => `(tactic| (walk_at "w"; repeat ((first | (refine And.intro ?left ?_; (case left => walk_at "side")) | (refine Br.t ?_) | (refine Br.f ?_)); walk_at "w")))
section
variable {P : Program} {w : World} {K : PySem.W.Frag} {mg : Str → Option Value} {base : Heap}
abbrev s_fall_of : Stmt := topS 14
abbrev N_fall_of : List Str := ["deed", "weights", "fall", "mark"]
theorem sc_fall_of : FnScope N_fall_of ["deed", "weights"] (defScope s_fall_of) := ⟨rfl, rfl, rfl, by decide +kernel, rfl, by decide +kernel, by decide +kernel⟩
def inW (n : Nat) (xs : List Int) : Prop := ∀ x ∈ xs, 0 ≤ x ∧ x < (n : Int)
def sp_fall : SpD := fun Γ Q _ => ∃ (d : Deed) (ws : List Int), Γ = [.fz (dD d), .fz (lI ws)] ∧ inW ws.length d.strikes ∧ inW ws.length d.sets ∧ Q (.fz (.int (fallD d ws))) Γ
theorem ms_fall : MonoSp sp_fall := fun Γ Q Q' E E' h _ ⟨d, ws, e, g, g2, q⟩ => ⟨d, ws, e, g, g2, h _ _ q⟩
theorem wAt_get {ws : List Int} {m : Int} (h : 0 ≤ m ∧ m < (ws.length : Int)) : atD (ws.map PyData.int) m = some (.int (wAt ws m)) := by
  obtain ⟨k, rfl⟩ : ∃ k : Nat, m = (k : Int) := ⟨m.toNat, by omega⟩
  have hk : k < ws.length := by omega
  rw [atD_nat, map_get? hk]
  unfold wAt
  rw [Int.toNat_natCast, List.getD_eq_getElem?_getD, List.getElem?_eq_getElem hk]
  rfl
theorem ok_fall {f : Addr} {fd : FuncData} (F : Fun K "fall_of" "fall_of" s_fall_of f fd) (B : Bl mg) : FnOk P w K mg base CX0 1 f fd ["deed", "weights"] (liftSp K 2 sp_fall) := by
  refine fnd F sc_fall_of 2 rfl ms_fall (fun X cdv A outer s H E hX hr => ?_)
  subst hX
  have hu := hu64 hr
  refine ⟨_, (pds_cons (pd_set 2 pd_int sc_fall_of.nd)
 (pds_cons (pd_for PassesOwn.never rfl (pid_seq (pd_ix (pdv 0) pd_int)) (pgd_name 3 sc_fall_of.nd) (pds_one (pd_aug 2 (pd_ifExp (pb_cmp od_in (pdv 3) (pd_ix (pdv 0) pd_int)) (pd_ix (pdv 1) (pdv 3)) (pd_callB (cd_max rfl) rfl B.max bt_max (pad_cons pd_int (pad_cons (pd_ix (pdv 1) (pdv 3)) pad_nil)))) ip_add sc_fall_of.nd)))
 (pds_cons (pd_for PassesOwn.never rfl (pid_seq (pd_ix (pdv 0) pd_int)) (pgd_name 3 sc_fall_of.nd) (pds_one (pd_if (pb_cmp od_notIn (pdv 3) (pd_ix (pdv 0) pd_int)) (pds_one (pd_aug 2 (pd_callB (cd_max rfl) rfl B.max bt_max (pad_cons pd_int (pad_cons (pd_op od_sub pd_int (pd_ix (pdv 1) (pdv 3))) pad_nil))) ip_add sc_fall_of.nd)) pds_nil)))
 (pds_one (pd_ret (pdv 2)))))), fun Γ Q E' hl hsp => ?_⟩
  obtain ⟨d, ws, rfl, g1, g2, q⟩ := hsp
  walk_at "go"
  intro mf
  refine ForR.of (fun us _ Γ => ∃ c : SV, Γ = [.fz (dD d), .fz (lI ws), .fz (.int (us.map fun m => if m ∈ d.needs then wAt ws m else pos0 (wAt ws m)).sum), c]) ⟨_, rfl⟩ (fun _ _ _ _ _ => trivial) (fun us x rest Γ eu ih => ?_) (fun Γ ih => ?_) mf
  · obtain ⟨c, rfl⟩ := ih
    have hx : x ∈ d.strikes := by rw [← eu]; simp
    walk_at "go"
    rw [isIn_ints]
    refine ⟨fun h => ?_, fun h => ?_⟩
    · have h : x ∈ d.needs := of_decide_eq_true h
      walk_at "go"
      rw [wAt_get (g1 x hx)]
      walk_at "go"
      refine ⟨.fz (.int x), ?_⟩
      rw [List.map_append, List.sum_append, List.map_singleton, List.sum_singleton, if_pos h]
      rfl
    · have h : x ∉ d.needs := of_decide_eq_false h
      walk_at "go"
      rw [wAt_get (g1 x hx)]
      walk_at "go"
      refine ⟨.fz (.int x), ?_⟩
      rw [List.map_append, List.sum_append, List.map_singleton, List.sum_singleton, if_neg h]
      rfl
  · obtain ⟨c, rfl⟩ := ih
    walk_at "go"
    intro mf
    refine ForR.of (fun us _ Γ => ∃ c : SV, Γ = [.fz (dD d), .fz (lI ws), .fz (.int (fallS d ws + (us.map fun m => if m ∈ d.needs then 0 else pos0 (0 - wAt ws m)).sum)), c]) ⟨c, ?_⟩ (fun _ _ _ _ _ => trivial) (fun us x rest Γ eu ih => ?_) (fun Γ ih => ?_) mf
    · simp only [List.map_nil, List.sum_nil, Int.add_zero]
      rfl
    · obtain ⟨c, rfl⟩ := ih
      have hx : x ∈ d.sets := by rw [← eu]; simp
      walk_at "go"
      rw [isIn_ints]
      refine ⟨fun h => ?_, fun h => ?_⟩
      · have h : x ∉ d.needs := by simpa using h
        walk_at "go"
        rw [wAt_get (g2 x hx)]
        walk_at "go"
        refine ⟨.fz (.int x), ?_⟩
        rw [List.map_append, List.sum_append, List.map_singleton, List.sum_singleton, if_neg h, ← Int.add_assoc]
        rfl
      · have h : x ∈ d.needs := by simpa using h
        walk_at "go"
        refine ⟨.fz (.int x), ?_⟩
        rw [List.map_append, List.sum_append, List.map_singleton, List.sum_singleton, if_pos h, Int.add_zero]
        rfl
    · obtain ⟨c, rfl⟩ := ih
      walk_at "go"
      exact q

end
end K
namespace K
open PySem PySem.Spec PyProof.Rows L2 DL
local macro_rules | `(tactic| walk_at "w") => `(tactic| conv => whnf)
local macro_rules | `(tactic| walk_at "side") => `(tactic| first | rfl | exact True.intro | assumption | exact shal_nil | exact shal_int | exact shal_bool | exact shal_str | exact flat_ints _ | exact flat_strs _ | omega | exact le_line (Nat.le_of_ble_eq_true rfl))
local macro_rules | `(tactic| walk_at "lc") => `(tactic| first | exact ⟨rfl, fun _ => ⟨rfl, rfl⟩, fun _ => rfl⟩ | exact ⟨rfl, fun _ => ⟨rfl, rfl⟩, fun z => (by cases z)⟩ | exact ⟨fun _ => ⟨rfl, rfl⟩, fun _ => rfl⟩ | exact ⟨fun _ => ⟨rfl, rfl⟩, fun z => (by cases z)⟩)
local macro_rules | `(tactic| walk_at "lch") => `(tactic| first | exact ⟨by simp [*], fun _ => ⟨rfl, rfl⟩, fun _ => rfl⟩ | exact ⟨by simp [*], fun z => (by cases z), fun _ => rfl⟩ | exact ⟨by simp [*], fun _ => ⟨rfl, rfl⟩, fun z => (by cases z)⟩)
local macro_rules | `(tactic| walk_at "go") => `(tactic| (walk_at "w"; repeat ((first | (refine And.intro ?left ?_; (case left => walk_at "side")) | (refine Br.t ?_) | (refine Br.f ?_)); walk_at "w")))
section
variable {P : Program} {w : World} {K : PySem.W.Frag} {mg : Str → Option Value} {base : Heap}
abbrev s_falls : Stmt := topS 15
abbrev N_falls : List Str := ["yard", "weights", "deed"]
theorem sc_falls : FnScope N_falls ["yard", "weights"] (defScope s_falls) := ⟨rfl, rfl, rfl, by decide +kernel, rfl, by decide +kernel, by decide +kernel⟩
theorem inW_of {xs : List Int} {n : Nat} (h : areMarks xs (n : Int) = true) : inW n xs := (areMarks_iff.mp h).2
def sp_falls : SpD := fun Γ Q _ => ∃ (y : Yard) (ws : List Int), Γ = [.fz (yD y), .fz (lI ws)] ∧ GoodY y ∧ ws.length = y.marks.length ∧ ∀ p, Q (.ow p (.lst ((y.deeds.map fun d => fallD d ws).map .int))) Γ
theorem ms_falls : MonoSp sp_falls := fun Γ Q Q' E E' h _ ⟨y, ws, e, g, g2, q⟩ => ⟨y, ws, e, g, g2, fun p => h _ _ (q p)⟩
theorem ok_falls {f : Addr} {fd : FuncData} (F : Fun K "falls" "falls" s_falls f fd) (B : Bl mg) (D_need_yard : DefOk P w K mg base 3 "need_yard" ["yard"] 1 sp_need) (D_fall_of : DefOk P w K mg base 1 "fall_of" ["deed", "weights"] 2 sp_fall) : FnOk P w K mg base CX0 4 f fd ["yard", "weights"] (liftSp K 2 sp_falls) := by
  refine fnd F sc_falls 2 rfl ms_falls (fun X cdv A outer s H E hX hr => ?_)
  subst hX
  have hu := hu64 hr
  refine ⟨_, (pds_cons (pd_expr (pd_def D_need_yard hr (pad_cons (pdv 0) pad_nil)))
 (pds_one (pd_ret (pd_lc [("deed", 2)] rfl sc_falls.nd (pid_seq (pd_ix (pdv 0) pd_int)) (blkOk_by (N := N_falls) (sc := defScope s_falls) (by decide +kernel)) (fun _ _ _ _ _ => pgc_name 2 sc_falls.nd) (fun _ _ _ _ _ => pbs_nil) (fun _ _ _ _ _ => (pd_def D_fall_of hr (pad_cons (pdv 2) (pad_cons (pdv 1) pad_nil)))))))), fun Γ Q E' hl hsp => ?_⟩
  obtain ⟨y, ws, rfl, g, g2, q⟩ := hsp
  walk_at "go"
  refine ⟨y, rfl, g, ?_⟩
  walk_at "go"
  intro mc
  have gd : ∀ d ∈ y.deeds, inW ws.length d.strikes ∧ inW ws.length d.sets := fun d hd => by
    obtain ⟨i, hi⟩ := List.mem_iff_getElem?.mp hd
    have gz := g.dd i d hi
    rw [g2]
    exact ⟨inW_of gz.sk, inW_of gz.st⟩
  refine LcR.of mc (fun _ => true) (fun d => .int (fallD d ws)) trivial (fun x hx => ?_) (fun a => ?_)
  · walk_at "go"
    refine ⟨fun _ => ?_, fun z => (by cases z)⟩
    walk_at "go"
    refine ⟨x, ws, rfl, (gd x hx).1, (gd x hx).2, ?_⟩
    walk_at "go"
    rfl
  · rw [filt_true]
    walk_at "go"
    have h := q a
    rw [List.map_map] at h
    exact h

end
end K
namespace K
open PySem PySem.Spec PyProof.Rows L2 DL
local macro_rules | `(tactic| walk_at "w") => `(tactic| conv => whnf)
local macro_rules | `(tactic| walk_at "side") => `(tactic| first | rfl | exact True.intro | assumption | exact shal_nil | exact shal_int | exact shal_bool | exact shal_str | exact flat_ints _ | exact flat_strs _ | omega | exact le_line (Nat.le_of_ble_eq_true rfl))
local macro_rules | `(tactic| walk_at "lc") => `(tactic| first | exact ⟨rfl, fun _ => ⟨rfl, rfl⟩, fun _ => rfl⟩ | exact ⟨rfl, fun _ => ⟨rfl, rfl⟩, fun z => (by cases z)⟩ | exact ⟨fun _ => ⟨rfl, rfl⟩, fun _ => rfl⟩ | exact ⟨fun _ => ⟨rfl, rfl⟩, fun z => (by cases z)⟩)
local macro_rules | `(tactic| walk_at "lch") => `(tactic| first | exact ⟨by simp [*], fun _ => ⟨rfl, rfl⟩, fun _ => rfl⟩ | exact ⟨by simp [*], fun z => (by cases z), fun _ => rfl⟩ | exact ⟨by simp [*], fun _ => ⟨rfl, rfl⟩, fun z => (by cases z)⟩)
local macro_rules | `(tactic| walk_at "go") => `(tactic| (walk_at "w"; repeat ((first | (refine And.intro ?left ?_; (case left => walk_at "side")) | (refine Br.t ?_) | (refine Br.f ?_)); walk_at "w")))
section
variable {P : Program} {w : World} {K : PySem.W.Frag} {mg : Str → Option Value} {base : Heap}
abbrev s_top_of : Stmt := topS 16
abbrev N_top_of : List Str := ["yard", "weights", "mark", "weight"]
theorem sc_top_of : FnScope N_top_of ["yard", "weights"] (defScope s_top_of) := ⟨rfl, rfl, rfl, by decide +kernel, rfl, by decide +kernel, by decide +kernel⟩
def topD (y : Yard) (ws : List Int) : Int := ((List.range ws.length).map fun i => if ((i : Nat) : Int) ∈ y.wish then wAt ws (i : Nat) else pos0 (wAt ws (i : Nat))).sum
def sp_top : SpD := fun Γ Q _ => ∃ (y : Yard) (ws : List Int), Γ = [.fz (yD y), .fz (lI ws)] ∧ GoodY y ∧ ws.length = y.marks.length ∧ Q (.fz (.int (topD y ws))) Γ
theorem ms_top : MonoSp sp_top := fun Γ Q Q' E E' h _ ⟨y, ws, e, g, g2, q⟩ => ⟨y, ws, e, g, g2, h _ _ q⟩
theorem ok_top {f : Addr} {fd : FuncData} (F : Fun K "top_of" "top_of" s_top_of f fd) (B : Bl mg) (D_need_yard : DefOk P w K mg base 3 "need_yard" ["yard"] 1 sp_need) : FnOk P w K mg base CX0 4 f fd ["yard", "weights"] (liftSp K 2 sp_top) := by
  refine fnd F sc_top_of 2 rfl ms_top (fun X cdv A outer s H E hX hr => ?_)
  subst hX
  have hu := hu64 hr
  refine ⟨_, (pds_cons (pd_expr (pd_def D_need_yard hr (pad_cons (pdv 0) pad_nil)))
 (pds_one (pd_ret (pd_callB (cd_sum rfl) rfl B.sum bt_sum (pad_cons (pd_lc [("mark", 2), ("weight", 3)] rfl sc_top_of.nd (pid_enumL rfl B.enumerate (pdv 1)) (blkOk_by (N := N_top_of) (sc := defScope s_top_of) (by decide +kernel)) (fun _ _ _ _ _ => pgc_two 2 3 rfl sc_top_of.nd) (fun _ _ _ _ _ => pbs_nil) (fun _ _ _ _ _ => (pd_ifExp (pb_cmp od_in (pdv 2) (pd_ix (pdv 0) pd_int)) (pdv 3) (pd_callB (cd_max rfl) rfl B.max bt_max (pad_cons pd_int (pad_cons (pdv 3) pad_nil)))))) pad_nil))))), fun Γ Q E' hl hsp => ?_⟩
  obtain ⟨y, ws, rfl, g, g2, q⟩ := hsp
  walk_at "go"
  refine ⟨y, rfl, g, ?_⟩
  walk_at "go"
  rw [enum_range]
  intro mc
  refine LcR.of mc (fun _ => true) (fun i => .int (if ((i : Nat) : Int) ∈ y.wish then wAt ws (i : Nat) else pos0 (wAt ws (i : Nat)))) trivial (fun x hx => ?_) (fun a => ?_)
  · walk_at "go"
    refine ⟨fun _ => ?_, fun z => (by cases z)⟩
    walk_at "go"
    rw [isIn_ints]
    refine ⟨fun h => ?_, fun h => ?_⟩
    · have h : ((x : Nat) : Int) ∈ y.wish := of_decide_eq_true h
      rw [if_pos h]
      walk_at "go"
      rfl
    · have h : ((x : Nat) : Int) ∉ y.wish := of_decide_eq_false h
      rw [if_neg h]
      walk_at "go"
      rfl
  · rw [filt_true]
    walk_at "go"
    refine ⟨(List.range ws.length).map fun i => if ((i : Nat) : Int) ∈ y.wish then wAt ws (i : Nat) else pos0 (wAt ws (i : Nat)), by rw [List.map_map]; rfl, ?_⟩
    walk_at "go"
    exact q

end
end K
/-! M6: the state behind a deed; sums over marks; the greatest fall, the greatest sum. -/
namespace K
open PySem DL L2
/-- a list's members, rising -/
def uniq : List Int → List Int
  | [] => []
  | x :: xs => if x ∈ xs then uniq xs else x :: uniq xs
theorem uniq_mem : ∀ {xs : List Int} {k : Int}, k ∈ uniq xs ↔ k ∈ xs
  | [], _ => .rfl
  | x :: xs, k => by
    unfold uniq
    split
    · rename_i h
      rw [uniq_mem, List.mem_cons]
      exact ⟨.inr, fun z => z.elim (fun e => e ▸ h) id⟩
    · rw [List.mem_cons, List.mem_cons, uniq_mem]
theorem uniq_nodup : ∀ {xs : List Int}, (uniq xs).Nodup
  | [] => .nil
  | x :: xs => by
    unfold uniq
    split
    · exact uniq_nodup
    · rename_i h
      exact List.nodup_cons.mpr ⟨fun z => h (uniq_mem.mp z), uniq_nodup⟩
def rise (xs : List Int) : List Int := (uniq xs).mergeSort (fun a b => decide (a ≤ b))
theorem rise_mem {xs : List Int} {k : Int} : k ∈ rise xs ↔ k ∈ xs := by
  unfold rise
  rw [(List.mergeSort_perm _ _).mem_iff, uniq_mem]
theorem rise_up (xs : List Int) : (rise xs).Pairwise (· < ·) := by
  have s : (rise xs).Pairwise (fun a b => decide (a ≤ b) = true) := List.pairwise_mergeSort (le := fun a b => decide (a ≤ b)) (fun a b c h1 h2 => by simp only [decide_eq_true_iff] at *; omega) (fun a b => by simp only [Bool.or_eq_true, decide_eq_true_iff]; omega) _
  exact up_of (s.imp fun h => of_decide_eq_true h) ((List.mergeSort_perm _ _).nodup_iff.mpr uniq_nodup)
/-- the state behind a deed -/
def aft (st : List Int) (d : Deed) : List Int := rise ((st ++ d.sets).filter fun m => !decide (m ∈ d.strikes))
theorem aft_mem {st : List Int} {d : Deed} {k : Int} : k ∈ aft st d ↔ (k ∈ st ∨ k ∈ d.sets) ∧ k ∉ d.strikes := by
  unfold aft
  rw [rise_mem, List.mem_filter, List.mem_append]
  simp
theorem aft_up (st : List Int) (d : Deed) : (aft st d).Pairwise (· < ·) := rise_up _
theorem aft_eq {st ys : List Int} {d : Deed} (h1 : ys.Pairwise (· < ·)) (h2 : ∀ k, k ∈ ys ↔ (k ∈ st ∨ k ∈ d.sets) ∧ k ∉ d.strikes) : ys = aft st d := rise_eq h1 (aft_up _ _) fun k => by rw [h2, aft_mem]
theorem sum_add (f g : Nat → Int) : ∀ l : List Nat, (l.map fun i => f i + g i).sum = (l.map f).sum + (l.map g).sum
  | [] => rfl
  | x :: l => by simp only [List.map_cons, List.sum_cons, sum_add f g l]; omega
theorem sum_sub (f g : Nat → Int) : ∀ l : List Nat, (l.map fun i => f i - g i).sum = (l.map f).sum - (l.map g).sum
  | [] => rfl
  | x :: l => by simp only [List.map_cons, List.sum_cons, sum_sub f g l]; omega
theorem sum_le {f g : Nat → Int} : ∀ {l : List Nat}, (∀ i ∈ l, f i ≤ g i) → (l.map f).sum ≤ (l.map g).sum
  | [], _ => Int.le_refl _
  | x :: l, h => by
    simp only [List.map_cons, List.sum_cons]
    have := h x List.mem_cons_self
    have := sum_le (l := l) fun i hi => h i (List.mem_cons_of_mem _ hi)
    omega
theorem sum_zero : ∀ l : List Nat, (l.map fun _ => (0 : Int)).sum = 0
  | [] => rfl
  | x :: l => by simp only [List.map_cons, List.sum_cons, sum_zero l]; omega
theorem sum_one {a : Int} (g : Int → Int) : ∀ {n : Nat}, 0 ≤ a → a < (n : Int) → ((List.range n).map fun i => if ((i : Nat) : Int) = a then g a else 0).sum = g a
  | 0, h0, h1 => by omega
  | n + 1, h0, h1 => by
    rw [List.range_succ, List.map_append, List.sum_append, List.map_singleton, List.sum_singleton]
    by_cases e : ((n : Nat) : Int) = a
    · rw [if_pos e]
      have z : ((List.range n).map fun i => if ((i : Nat) : Int) = a then g a else 0) = (List.range n).map fun _ => (0 : Int) := List.map_congr_left fun i hi => by
        have := List.mem_range.mp hi
        rw [if_neg (by omega)]
      rw [z, sum_zero]
      omega
    · rw [if_neg e, sum_one g h0 (by omega)]
      omega
/-- a sum over numbers below n -/
theorem sum_ind {n : Nat} (g : Int → Int) : ∀ {xs : List Int}, xs.Nodup → (∀ x ∈ xs, 0 ≤ x ∧ x < (n : Int)) → (xs.map g).sum = ((List.range n).map fun i => if ((i : Nat) : Int) ∈ xs then g (i : Nat) else 0).sum
  | [], _, _ => by
    simp only [List.map_nil, List.sum_nil, List.not_mem_nil, if_false, sum_zero]
  | x :: xs, h, r => by
    rw [List.nodup_cons] at h
    rw [List.map_cons, List.sum_cons, sum_ind g h.2 fun y hy => r y (List.mem_cons_of_mem _ hy)]
    have hx := r x List.mem_cons_self
    rw [← sum_one g hx.1 hx.2, ← sum_add]
    congr 1
    refine List.map_congr_left fun i hi => ?_
    simp only [List.mem_cons]
    by_cases e : ((i : Nat) : Int) = x
    · rw [if_pos e, if_neg (by rw [e]; exact h.1), if_pos (.inl e), e]
      omega
    · by_cases m : ((i : Nat) : Int) ∈ xs
      · rw [if_neg e, if_pos m, if_pos (.inr m)]
        omega
      · rw [if_neg e, if_neg m, if_neg (by rintro (z | z); exact e z; exact m z)]
        omega
structure FitD (n : Nat) (d : Deed) : Prop where
  nd : d.needs.Pairwise (· < ·)
  st : d.sets.Pairwise (· < ·)
  sk : d.strikes.Pairwise (· < ·)
  ndr : ∀ m ∈ d.needs, 0 ≤ m ∧ m < (n : Int)
  str : ∀ m ∈ d.sets, 0 ≤ m ∧ m < (n : Int)
  skr : ∀ m ∈ d.strikes, 0 ≤ m ∧ m < (n : Int)
  apart : ∀ m ∈ d.sets, m ∉ d.strikes
theorem aft_rg {n : Nat} {d : Deed} (h : FitD n d) {st : List Int} (r : ∀ m ∈ st, 0 ≤ m ∧ m < (n : Int)) : ∀ m ∈ aft st d, 0 ≤ m ∧ m < (n : Int) := fun m hm => by
  rcases (aft_mem.mp hm).1 with z | z
  · exact r m z
  · exact h.str m z
theorem fall_sum {ws : List Int} {d : Deed} (h : FitD ws.length d) : fallD d ws = ((List.range ws.length).map fun i => (if ((i : Nat) : Int) ∈ d.strikes then (if ((i : Nat) : Int) ∈ d.needs then wAt ws (i : Nat) else pos0 (wAt ws (i : Nat))) else 0)
    + (if ((i : Nat) : Int) ∈ d.sets then (if ((i : Nat) : Int) ∈ d.needs then 0 else pos0 (0 - wAt ws (i : Nat))) else 0)).sum := by
  unfold fallD fallS fallT
  rw [sum_add, sum_ind (n := ws.length) (fun m => if m ∈ d.needs then wAt ws m else pos0 (wAt ws m)) (nodup_up h.sk) h.skr, sum_ind (n := ws.length) (fun m => if m ∈ d.needs then 0 else pos0 (0 - wAt ws m)) (nodup_up h.st) h.str]
theorem drop_sum {ws : List Int} {d : Deed} (h : FitD ws.length d) {st : List Int} (u : st.Pairwise (· < ·)) (r : ∀ m ∈ st, 0 ≤ m ∧ m < (ws.length : Int)) : wSum ws st - wSum ws (aft st d)
    = ((List.range ws.length).map fun i => (if ((i : Nat) : Int) ∈ st then wAt ws (i : Nat) else 0) - (if ((i : Nat) : Int) ∈ aft st d then wAt ws (i : Nat) else 0)).sum := by
  unfold wSum
  rw [sum_sub, sum_ind (n := ws.length) (wAt ws) (nodup_up u) r, sum_ind (n := ws.length) (wAt ws) (nodup_up (aft_up st d)) (aft_rg h r)]
theorem fall_ub {ws : List Int} {d : Deed} (h : FitD ws.length d) {st : List Int} (u : st.Pairwise (· < ·)) (r : ∀ m ∈ st, 0 ≤ m ∧ m < (ws.length : Int)) (hn : ∀ m ∈ d.needs, m ∈ st) : wSum ws st - wSum ws (aft st d) ≤ fallD d ws := by
  rw [fall_sum h, drop_sum h u r]
  refine sum_le fun i _ => ?_
  have ap := h.apart (i : Nat)
  have hn := hn (i : Nat)
  simp only [aft_mem, pos0]
  by_cases h1 : ((i : Nat) : Int) ∈ st <;> by_cases h2 : ((i : Nat) : Int) ∈ d.needs <;> by_cases h3 : ((i : Nat) : Int) ∈ d.sets <;> by_cases h4 : ((i : Nat) : Int) ∈ d.strikes <;> simp only [h1, h2, h3, h4, if_true, if_false, true_or, or_true, false_or, or_false, not_true, not_false_eq_true, and_true, and_false, true_and, false_and, or_self, and_self] at * <;> (try contradiction) <;> (try (split <;> omega)) <;> (try omega) <;> (try exact absurd trivial (ap trivial))
theorem rg_filter {n : Nat} (p : Int → Bool) : ((rgI 0 n).filter p).Pairwise (· < ·) ∧ (∀ m ∈ (rgI 0 n).filter p, 0 ≤ m ∧ m < (n : Int)) ∧ ∀ i : Nat, i < n → (((i : Nat) : Int) ∈ (rgI 0 n).filter p ↔ p (i : Nat) = true) := by
  refine ⟨(rgI_up _ _).filter _, fun m hm => rgI_mem.mp (List.mem_filter.mp hm).1, fun i hi => ?_⟩
  rw [List.mem_filter, rgI_mem]
  exact ⟨fun h => h.2, fun h => ⟨⟨by omega, by omega⟩, h⟩⟩
theorem fall_max {ws : List Int} {d : Deed} (h : FitD ws.length d) : ∃ st : List Int, st.Pairwise (· < ·) ∧ (∀ m ∈ st, 0 ≤ m ∧ m < (ws.length : Int)) ∧ (∀ m ∈ d.needs, m ∈ st) ∧ wSum ws st - wSum ws (aft st d) = fallD d ws := by
  obtain ⟨h1, h2, h3⟩ := rg_filter (n := ws.length) fun m => decide (m ∈ d.needs) || (decide (m ∈ d.strikes) && decide (wAt ws m > 0)) || (decide (m ∈ d.sets) && decide (wAt ws m ≥ 0))
  refine ⟨_, h1, h2, fun m hm => ?_, ?_⟩
  · obtain ⟨k, rfl⟩ : ∃ k : Nat, m = (k : Int) := ⟨m.toNat, by have := h.ndr m hm; omega⟩
    rw [h3 k (by have := h.ndr _ hm; omega)]
    simp [hm]
  · rw [fall_sum h, drop_sum h h1 h2]
    congr 1
    refine List.map_congr_left fun i hi => ?_
    have ap := h.apart (i : Nat)
    simp only [aft_mem, h3 i (List.mem_range.mp hi), pos0, Bool.or_eq_true, Bool.and_eq_true, decide_eq_true_iff]
    by_cases h2 : ((i : Nat) : Int) ∈ d.needs <;> by_cases h3 : ((i : Nat) : Int) ∈ d.sets <;> by_cases h4 : ((i : Nat) : Int) ∈ d.strikes <;> simp only [h2, h3, h4, if_true, if_false, true_or, or_true, false_or, or_false, not_true, not_false_eq_true, and_true, and_false, true_and, false_and, or_self, and_self] at * <;> (try contradiction) <;> (try exact absurd trivial (ap trivial)) <;> (repeat split) <;> omega
theorem top_ub {ws wish : List Int} (w1 : wish.Pairwise (· < ·)) {st : List Int} (u : st.Pairwise (· < ·)) (r : ∀ m ∈ st, 0 ≤ m ∧ m < (ws.length : Int)) (hw : ∀ m ∈ wish, m ∈ st) :
    wSum ws st ≤ ((List.range ws.length).map fun i => if ((i : Nat) : Int) ∈ wish then wAt ws (i : Nat) else pos0 (wAt ws (i : Nat))).sum := by
  unfold wSum
  rw [sum_ind (n := ws.length) (wAt ws) (nodup_up u) r]
  refine sum_le fun i _ => ?_
  have hw := hw (i : Nat)
  unfold pos0
  by_cases h1 : ((i : Nat) : Int) ∈ st <;> by_cases h2 : ((i : Nat) : Int) ∈ wish <;> simp only [h1, h2, if_true, if_false] at * <;> (try contradiction) <;> (try exact absurd (hw trivial) id) <;> (repeat split) <;> omega
theorem top_max {ws wish : List Int} (wr : ∀ m ∈ wish, 0 ≤ m ∧ m < (ws.length : Int)) : ∃ st : List Int, st.Pairwise (· < ·) ∧ (∀ m ∈ st, 0 ≤ m ∧ m < (ws.length : Int)) ∧ (∀ m ∈ wish, m ∈ st) ∧
    wSum ws st = ((List.range ws.length).map fun i => if ((i : Nat) : Int) ∈ wish then wAt ws (i : Nat) else pos0 (wAt ws (i : Nat))).sum := by
  obtain ⟨h1, h2, h3⟩ := rg_filter (n := ws.length) fun m => decide (m ∈ wish) || decide (wAt ws m > 0)
  refine ⟨_, h1, h2, fun m hm => ?_, ?_⟩
  · obtain ⟨k, rfl⟩ : ∃ k : Nat, m = (k : Int) := ⟨m.toNat, by have := wr m hm; omega⟩
    rw [h3 k (by have := wr _ hm; omega)]
    simp [hm]
  · unfold wSum
    rw [sum_ind (n := ws.length) (wAt ws) (nodup_up h1) h2]
    congr 1
    refine List.map_congr_left fun i hi => ?_
    simp only [h3 i (List.mem_range.mp hi), pos0, Bool.or_eq_true, decide_eq_true_iff]
    by_cases h2 : ((i : Nat) : Int) ∈ wish <;> simp only [h2, if_true, if_false, true_or, false_or] <;> (repeat split) <;> omega
end K
namespace K
open PySem PySem.Spec PyProof.Rows L2 DL
local macro_rules | `(tactic| walk_at "w") => `(tactic| conv => whnf)
local macro_rules | `(tactic| walk_at "side") => `(tactic| first | rfl | exact True.intro | assumption | exact shal_nil | exact shal_int | exact shal_bool | exact shal_str | exact flat_ints _ | exact flat_strs _ | omega | exact le_line (Nat.le_of_ble_eq_true rfl))
local macro_rules | `(tactic| walk_at "lc") => `(tactic| first | exact ⟨rfl, fun _ => ⟨rfl, rfl⟩, fun _ => rfl⟩ | exact ⟨rfl, fun _ => ⟨rfl, rfl⟩, fun z => (by cases z)⟩ | exact ⟨fun _ => ⟨rfl, rfl⟩, fun _ => rfl⟩ | exact ⟨fun _ => ⟨rfl, rfl⟩, fun z => (by cases z)⟩)
local macro_rules | `(tactic| walk_at "lch") => `(tactic| first | exact ⟨by simp [*], fun _ => ⟨rfl, rfl⟩, fun _ => rfl⟩ | exact ⟨by simp [*], fun z => (by cases z), fun _ => rfl⟩ | exact ⟨by simp [*], fun _ => ⟨rfl, rfl⟩, fun z => (by cases z)⟩)
local macro_rules | `(tactic| walk_at "go") => `(tactic| (walk_at "w"; repeat ((first | (refine And.intro ?left ?_; (case left => walk_at "side")) | (refine Br.t ?_) | (refine Br.f ?_)); walk_at "w")))
section
variable {P : Program} {w : World} {K : PySem.W.Frag} {mg : Str → Option Value} {base : Heap}
abbrev s__law_after : Stmt := topS 29
abbrev N__law_after : List Str := ["_law_state", "_law_deed", "_law_stay", "_law_mark"]
theorem sc__law_after : FnScope N__law_after ["_law_state", "_law_deed"] (defScope s__law_after) := ⟨rfl, rfl, rfl, by decide +kernel, rfl, by decide +kernel, by decide +kernel⟩
def sp_lafter : SpD := fun Γ Q _ => ∃ (st : List Int) (d : Deed), Γ = [.fz (tI st), .fz (dD d)] ∧ st.Pairwise (· < ·) ∧ st.length ≤ 100 ∧ d.sets.length ≤ 100 ∧ d.sets.Pairwise (· < ·) ∧ (∀ m ∈ d.sets, m ∉ d.strikes) ∧ Q (.fz (tI (aft st d))) Γ
theorem ms_lafter : MonoSp sp_lafter := fun Γ Q Q' E E' h _ ⟨st, d, e, g1, g2, g3, g4, g5, q⟩ => ⟨st, d, e, g1, g2, g3, g4, g5, h _ _ q⟩
theorem ok_lafter {f : Addr} {fd : FuncData} (F : Fun K "_law_after" "_law_after" s__law_after f fd) (B : Bl mg) : FnOk P w K mg base CX0 1 f fd ["_law_state", "_law_deed"] (liftSp K 2 sp_lafter) := by
  refine fnd F sc__law_after 2 rfl ms_lafter (fun X cdv A outer s H E hX hr => ?_)
  subst hX
  have hu := hu64 hr
  refine ⟨_, (pds_cons (pd_sfz 2 (pd_setLc 2 [("_law_mark", 3)] rfl sc__law_after.nd (pid_seq (pdv 0)) (blkOk_by (N := N__law_after) (sc := defScope s__law_after) (by decide +kernel)) (fun _ _ _ _ _ => pgc_name 3 sc__law_after.nd) (fun _ _ _ _ _ => pbs_one (PBW.pb (pbw_and (pb_cmp od_notIn (pdv 3) (pd_ix (pdv 1) pd_int)) (pbw_and1 (pb_cmp od_notIn (pdv 3) (pd_ix (pdv 1) pd_int)))))) (fun _ _ _ _ _ => (pdv 3))))
 (pds_one (pd_ret (pd_callTy cd_tuple rfl B.tuple bt_tuple (pad_cons (pd_callB cd_sortI rfl B.sorted bt_sorted (pad_cons (pd_op od_add (pdv 2) (pd_callTy cd_list rfl B.list bt_list (pad_cons (pd_ix (pdv 1) pd_int) pad_nil))) pad_nil)) pad_nil))))), fun Γ Q E' hl hsp => ?_⟩
  obtain ⟨st, d, rfl, u, l1, l2, su, ap, q⟩ := hsp
  walk_at "w"
  intro mc
  refine LcR.ints mc (fun m => !decide (m ∈ d.strikes) && !decide (m ∈ d.sets)) .int trivial (fun x hx => ?_) (fun a => ?_)
  · walk_at "go"
    rw [isIn_ints]
    refine ⟨fun h => ?_, fun h => ?_⟩
    · have h : x ∉ d.strikes := by simpa using h
      walk_at "go"
      rw [isIn_ints]
      walk_at "lch"
    · have h : x ∈ d.strikes := by simpa using h
      walk_at "go"
      walk_at "lch"
  · have fl := List.length_filter_le (fun m => !decide (m ∈ d.strikes) && !decide (m ∈ d.sets)) st
    walk_at "go"
    intro p2
    walk_at "w"
    refine ⟨by rw [List.length_map, List.length_map]; exact le_line (by omega), fun p3 => ?_⟩
    rw [← List.map_append]
    walk_at "w"
    refine ⟨_, rfl, fun ys y1 y2 p4 => ?_⟩
    walk_at "go"
    have nd : ((st.filter fun m => !decide (m ∈ d.strikes) && !decide (m ∈ d.sets)) ++ d.sets).Nodup := List.nodup_append.mpr ⟨(nodup_up u).sublist List.filter_sublist, nodup_up su, fun a ha b hb hab => by
      subst hab
      simp [hb] at ha⟩
    rw [aft_eq (st := st) (d := d) (up_of y2 (y1.nodup_iff.mpr nd)) (fun k => by
      rw [y1.mem_iff, List.mem_append, List.mem_filter]
      have := ap k
      by_cases h1 : k ∈ d.sets <;> by_cases h2 : k ∈ d.strikes <;> simp [h1, h2] at * )]
    exact q

end
end K
namespace K
open PySem PySem.Spec PyProof.Rows L2 DL
local macro_rules | `(tactic| walk_at "w") => `(tactic| conv => whnf)
local macro_rules | `(tactic| walk_at "side") => `(tactic| first | rfl | exact True.intro | assumption | exact shal_nil | exact shal_int | exact shal_bool | exact shal_str | exact flat_ints _ | exact flat_strs _ | omega | exact le_line (Nat.le_of_ble_eq_true rfl))
local macro_rules | `(tactic| walk_at "lc") => `(tactic| first | exact ⟨rfl, fun _ => ⟨rfl, rfl⟩, fun _ => rfl⟩ | exact ⟨rfl, fun _ => ⟨rfl, rfl⟩, fun z => (by cases z)⟩ | exact ⟨fun _ => ⟨rfl, rfl⟩, fun _ => rfl⟩ | exact ⟨fun _ => ⟨rfl, rfl⟩, fun z => (by cases z)⟩)
local macro_rules | `(tactic| walk_at "lch") => `(tactic| first | exact ⟨by simp [*], fun _ => ⟨rfl, rfl⟩, fun _ => rfl⟩ | exact ⟨by simp [*], fun z => (by cases z), fun _ => rfl⟩ | exact ⟨by simp [*], fun _ => ⟨rfl, rfl⟩, fun z => (by cases z)⟩)
local macro_rules | `(tactic| walk_at "go") => `(tactic| (walk_at "w"; repeat ((first | (refine And.intro ?left ?_; (case left => walk_at "side")) | (refine Br.t ?_) | (refine Br.f ?_)); walk_at "w")))
section
variable {P : Program} {w : World} {K : PySem.W.Frag} {mg : Str → Option Value} {base : Heap}
abbrev s__law_every : Stmt := topS 30
abbrev N__law_every : List Str := ["_law_many", "_law_found", "_law_mark", "_law_row"]
theorem sc__law_every : FnScope N__law_every ["_law_many"] (defScope s__law_every) := ⟨rfl, rfl, rfl, by decide +kernel, rfl, by decide +kernel, by decide +kernel⟩
def sp_every : SpD := fun Γ Q _ => ∃ n : Nat, Γ = [.fz (.int (n : Int))] ∧ n ≤ 10 ∧ Q (.fz (.list ((every n).map tI))) Γ
theorem ms_every : MonoSp sp_every := fun Γ Q Q' E E' h _ ⟨n, e, g, q⟩ => ⟨n, e, g, h _ _ q⟩
theorem every_len : ∀ n, (every n).length = 2 ^ n
  | 0 => rfl
  | n + 1 => by
    show (every n ++ (every n).map _).length = _
    rw [List.length_append, List.length_map, every_len n, Nat.pow_succ]
    omega
theorem ok_every {f : Addr} {fd : FuncData} (F : Fun K "_law_every" "_law_every" s__law_every f fd) (B : Bl mg) : FnOk P w K mg base CX0 1 f fd ["_law_many"] (liftSp K 1 sp_every) := by
  refine fnd F sc__law_every 1 rfl ms_every (fun X cdv A outer s H E hX hr => ?_)
  subst hX
  have hu := hu64 hr
  refine ⟨_, (pds_cons (pd_set 1 (pd_fz (pd_lst (pad_cons (pd_tup pad_nil) pad_nil))) sc__law_every.nd)
 (pds_cons (pd_for PassesOwn.never rfl (pid_rg1 rfl B.range (pdv 0)) (pgd_name 2 sc__law_every.nd) (pds_one (pd_set 1 (pd_fz (pd_op od_add (pdv 1) (pd_lc [("_law_row", 3)] rfl sc__law_every.nd (pid_seq (pdv 1)) (blkOk_by (N := N__law_every) (sc := defScope s__law_every) (by decide +kernel)) (fun _ _ _ _ _ => pgc_name 3 sc__law_every.nd) (fun _ _ _ _ _ => pbs_nil) (fun _ _ _ _ _ => (pd_fz (pd_op od_add (pdv 3) (pd_tup (pad_cons (pdv 2) pad_nil)))))))) sc__law_every.nd)))
 (pds_one (pd_ret (pdv 1))))), fun Γ Q E' hl hsp => ?_⟩
  obtain ⟨n, rfl, hn, q⟩ := hsp
  walk_at "go"
  intro p1
  walk_at "go"
  refine ⟨RgOk.of_le (by decide) (by omega) (by decide) (by omega), ?_⟩
  walk_at "w"
  intro mf
  refine ForR.rg0 (fun i Γ => ∃ c d : SV, Γ = [.fz (.int (n : Int)), .fz (.list ((every i).map tI)), c, d]) ⟨_, _, rfl⟩ (fun i Γ hi ih => ?_) (fun Γ ih => ?_)
  · obtain ⟨c, d, rfl⟩ := ih
    have e1 : (every i).length ≤ 1024 := by
      rw [every_len]
      exact Nat.pow_le_pow_right (n := 2) (by decide) (show i ≤ 10 by omega)
    walk_at "go"
    intro mc
    refine LcR.of mc (fun _ => true) (fun r => tI (r ++ [((i : Nat) : Int)])) trivial (fun x hx => ?_) (fun a => ?_)
    · have lx : x.length ≤ 1000 := by
        have := rise_len (every_mem.mp hx).1 (every_mem.mp hx).2 (by omega)
        omega
      walk_at "go"
      refine ⟨fun _ => ?_, fun z => (by cases z)⟩
      walk_at "w"
      refine ⟨by rw [List.length_map]; exact Nat.le_trans (Nat.add_le_add lx (Nat.le_refl 1)) (by decide), ?_⟩
      rw [map_app]
      exact ⟨rfl, rfl⟩
    · rw [filt_true]
      walk_at "w"
      refine ⟨by rw [List.length_map, List.length_map]; exact Nat.le_trans (Nat.add_le_add e1 e1) (by decide), fun p3 => ?_⟩
      walk_at "go"
      exact ⟨_, _, by rw [show every (i + 1) = every i ++ (every i).map fun r => r ++ [((i : Nat) : Int)] from rfl, List.map_append, List.map_map]; rfl⟩
  · obtain ⟨c, d, rfl⟩ := ih
    walk_at "go"
    exact q

end
end K
namespace K
open PySem PySem.Spec PyProof.Rows L2 DL
local macro_rules | `(tactic| walk_at "w") => `(tactic| conv => whnf)
local macro_rules | `(tactic| walk_at "side") => `(tactic| first | rfl | exact True.intro | assumption | exact shal_nil | exact shal_int | exact shal_bool | exact shal_str | exact flat_ints _ | exact flat_strs _ | omega | exact le_line (Nat.le_of_ble_eq_true rfl))
local macro_rules | `(tactic| walk_at "lc") => `(tactic| first | exact ⟨rfl, fun _ => ⟨rfl, rfl⟩, fun _ => rfl⟩ | exact ⟨rfl, fun _ => ⟨rfl, rfl⟩, fun z => (by cases z)⟩ | exact ⟨fun _ => ⟨rfl, rfl⟩, fun _ => rfl⟩ | exact ⟨fun _ => ⟨rfl, rfl⟩, fun z => (by cases z)⟩)
local macro_rules | `(tactic| walk_at "lch") => `(tactic| first | exact ⟨by simp [*], fun _ => ⟨rfl, rfl⟩, fun _ => rfl⟩ | exact ⟨by simp [*], fun z => (by cases z), fun _ => rfl⟩ | exact ⟨by simp [*], fun _ => ⟨rfl, rfl⟩, fun z => (by cases z)⟩)
local macro_rules | `(tactic| walk_at "go") => `(tactic| (walk_at "w"; repeat ((first | (refine And.intro ?left ?_; (case left => walk_at "side")) | (refine Br.t ?_) | (refine Br.f ?_)); walk_at "w")))
section
variable {P : Program} {w : World} {K : PySem.W.Frag} {mg : Str → Option Value} {base : Heap}
abbrev s__law_weight : Stmt := topS 32
abbrev N__law_weight : List Str := ["_law_weights_here", "_law_state", "_law_mark"]
theorem sc__law_weight : FnScope N__law_weight ["_law_weights_here", "_law_state"] (defScope s__law_weight) := ⟨rfl, rfl, rfl, by decide +kernel, rfl, by decide +kernel, by decide +kernel⟩
def sp_weight : SpD := fun Γ Q _ => ∃ (ws st : List Int), Γ = [.fz (lI ws), .fz (tI st)] ∧ (∀ m ∈ st, 0 ≤ m ∧ m < (ws.length : Int)) ∧ Q (.fz (.int (wSum ws st))) Γ
theorem ms_weight : MonoSp sp_weight := fun Γ Q Q' E E' h _ ⟨ws, st, e, g, q⟩ => ⟨ws, st, e, g, h _ _ q⟩
theorem ok_weight {f : Addr} {fd : FuncData} (F : Fun K "_law_weight" "_law_weight" s__law_weight f fd) (B : Bl mg) : FnOk P w K mg base CX0 1 f fd ["_law_weights_here", "_law_state"] (liftSp K 2 sp_weight) := by
  refine fnd F sc__law_weight 2 rfl ms_weight (fun X cdv A outer s H E hX hr => ?_)
  subst hX
  have hu := hu64 hr
  refine ⟨_, (pds_one (pd_ret (pd_callB (cd_sum rfl) rfl B.sum bt_sum (pad_cons (pd_lc [("_law_mark", 2)] rfl sc__law_weight.nd (pid_seq (pdv 1)) (blkOk_by (N := N__law_weight) (sc := defScope s__law_weight) (by decide +kernel)) (fun _ _ _ _ _ => pgc_name 2 sc__law_weight.nd) (fun _ _ _ _ _ => pbs_nil) (fun _ _ _ _ _ => (pd_ix (pdv 0) (pdv 2)))) pad_nil)))), fun Γ Q E' hl hsp => ?_⟩
  obtain ⟨ws, st, rfl, r, q⟩ := hsp
  walk_at "w"
  intro mc
  refine LcR.ints mc (fun _ => true) (fun m => .int (wAt ws m)) trivial (fun x hx => ?_) (fun a => ?_)
  · walk_at "go"
    refine ⟨fun _ => ?_, fun z => (by cases z)⟩
    walk_at "go"
    rw [wAt_get (r x hx)]
    exact ⟨rfl, rfl⟩
  · rw [filt_true]
    walk_at "w"
    refine ⟨st.map (wAt ws), by rw [List.map_map]; rfl, ?_⟩
    walk_at "go"
    exact q

end
end K
namespace K
open PySem PySem.Spec PyProof.Rows L2 DL
local macro_rules | `(tactic| walk_at "w") => `(tactic| conv => whnf)
local macro_rules | `(tactic| walk_at "side") => `(tactic| first | rfl | exact True.intro | assumption | exact shal_nil | exact shal_int | exact shal_bool | exact shal_str | exact flat_ints _ | exact flat_strs _ | omega | exact le_line (Nat.le_of_ble_eq_true rfl))
local macro_rules | `(tactic| walk_at "lc") => `(tactic| first | exact ⟨rfl, fun _ => ⟨rfl, rfl⟩, fun _ => rfl⟩ | exact ⟨rfl, fun _ => ⟨rfl, rfl⟩, fun z => (by cases z)⟩ | exact ⟨fun _ => ⟨rfl, rfl⟩, fun _ => rfl⟩ | exact ⟨fun _ => ⟨rfl, rfl⟩, fun z => (by cases z)⟩)
local macro_rules | `(tactic| walk_at "lch") => `(tactic| first | exact ⟨by simp [*], fun _ => ⟨rfl, rfl⟩, fun _ => rfl⟩ | exact ⟨by simp [*], fun z => (by cases z), fun _ => rfl⟩ | exact ⟨by simp [*], fun _ => ⟨rfl, rfl⟩, fun z => (by cases z)⟩)
local macro_rules | `(tactic| walk_at "go") => `(tactic| (walk_at "w"; repeat ((first | (refine And.intro ?left ?_; (case left => walk_at "side")) | (refine Br.t ?_) | (refine Br.f ?_)); walk_at "w")))
section
variable {P : Program} {w : World} {K : PySem.W.Frag} {mg : Str → Option Value} {base : Heap}
abbrev s__law_weights : Stmt := topS 31
abbrev N__law_weights : List Str := ["_law_d", "_law_t", "_law_way", "_law_mark"]
theorem sc__law_weights : FnScope N__law_weights ["_law_d", "_law_t"] (defScope s__law_weights) := ⟨rfl, rfl, rfl, by decide +kernel, rfl, by decide +kernel, by decide +kernel⟩
def sp_weights : SpD := fun Γ Q _ => ∃ (p : Addr) (xs : List Int) (y : Yard), Γ = [dc p xs, .fz (yD y)] ∧ Dice xs ∧ ∀ xs' (ws : List Int), Dice xs' → ws.length = y.marks.length → Q (.fz (lI ws)) [dc p xs', .fz (yD y)]
theorem ms_weights : MonoSp sp_weights := fun Γ Q Q' E E' h _ ⟨p, xs, y, e, g, q⟩ => ⟨p, xs, y, e, g, fun xs' ws h1 h2 => h _ _ (q xs' ws h1 h2)⟩
theorem ok_weights {f : Addr} {fd : FuncData} (F : Fun K "_law_weights" "_law_weights" s__law_weights f fd) (B : Bl mg) (D__law_off : DefOk P w K mg base 1 "_law_off" ["_law_d", "_law_upto"] 2 sp_off) : FnOk P w K mg base CX0 2 f fd ["_law_d", "_law_t"] (liftSp K 2 sp_weights) := by
  refine fnd F sc__law_weights 2 rfl ms_weights (fun X cdv A outer s H E hX hr => ?_)
  subst hX
  have hu := hu64 hr
  refine ⟨_, (pds_cons (pd_set 2 (pd_def D__law_off hr (pad_cons (pdv 0) (pad_cons pd_int pad_nil))) sc__law_weights.nd)
 (pds_one (pd_ret (pd_fz (pd_lc [("_law_mark", 3)] rfl sc__law_weights.nd (pid_seq (pd_ix (pdv 1) pd_int)) (blkOk_by (N := N__law_weights) (sc := defScope s__law_weights) (by decide +kernel)) (fun _ _ _ _ _ => pgc_name 3 sc__law_weights.nd) (fun _ _ _ _ _ => pbs_nil) (fun _ _ _ _ _ => (pd_ix (pd_lst (pad_cons (pd_op od_sub (pd_def D__law_off hr (pad_cons (pdv 0) (pad_cons pd_int pad_nil))) pd_int) (pad_cons (pd_op od_sub (pd_def D__law_off hr (pad_cons (pdv 0) (pad_cons pd_int pad_nil))) pd_int) (pad_cons pd_int (pad_cons (pd_op od_sub (pd_def D__law_off hr (pad_cons (pdv 0) (pad_cons pd_int pad_nil))) pd_int) pad_nil))))) (pdv 2)))))))), fun Γ Q E' hl hsp => ?_⟩
  obtain ⟨p, xs, y, rfl, dx, q⟩ := hsp
  walk_at "go"
  refine ⟨p, xs, 4, rfl, dx, ⟨by decide, by decide⟩, fun r1 xs d1 r10 r11 => ?_⟩
  walk_at "go"
  intro mc
  refine LcR.gen (enb := PyData.int) mc (fun us bs Γ => bs.length = us.length ∧ ∃ xs, Γ = [dc p xs, .fz (yD y), .fz (.int r1), .no] ∧ Dice xs) ⟨rfl, xs, rfl, d1⟩ (fun _ _ _ _ => trivial) (fun us x ws bs Γ e ih => ?_) (fun bs Γ ih a => ?_)
  · obtain ⟨hl2, xs, rfl, dx⟩ := ih
    walk_at "go"
    refine ⟨p, xs, 7, rfl, dx, ⟨by decide, by decide⟩, fun r2 xs d2 r20 r21 => ?_⟩
    walk_at "go"
    refine ⟨p, xs, 201, rfl, d2, ⟨by decide, by decide⟩, fun r3 xs d3 r30 r31 => ?_⟩
    walk_at "go"
    refine ⟨p, xs, 3, rfl, d3, ⟨by decide, by decide⟩, fun r4 xs d4 r40 r41 => ?_⟩
    walk_at "go"
    intro p2
    rcases lt4 r10 r11 with rfl | rfl | rfl | rfl
    all_goals (walk_at "go"; exact ⟨_, rfl, by rw [List.length_append, List.length_append, hl2]; rfl, _, rfl, d4⟩)
  · obtain ⟨hl2, xs, rfl, dx⟩ := ih
    walk_at "go"
    exact back_ow (q _ bs dx hl2)

end
end K
namespace K
open PySem PySem.Spec PyProof.Rows L2 DL
local macro_rules | `(tactic| walk_at "w") => `(tactic| conv => whnf)
local macro_rules | `(tactic| walk_at "side") => `(tactic| first | rfl | exact True.intro | assumption | exact shal_nil | exact shal_int | exact shal_bool | exact shal_str | exact flat_ints _ | exact flat_strs _ | omega | exact le_line (Nat.le_of_ble_eq_true rfl))
local macro_rules | `(tactic| walk_at "lc") => `(tactic| first | exact ⟨rfl, fun _ => ⟨rfl, rfl⟩, fun _ => rfl⟩ | exact ⟨rfl, fun _ => ⟨rfl, rfl⟩, fun z => (by cases z)⟩ | exact ⟨fun _ => ⟨rfl, rfl⟩, fun _ => rfl⟩ | exact ⟨fun _ => ⟨rfl, rfl⟩, fun z => (by cases z)⟩)
local macro_rules | `(tactic| walk_at "lch") => `(tactic| first | exact ⟨by simp [*], fun _ => ⟨rfl, rfl⟩, fun _ => rfl⟩ | exact ⟨by simp [*], fun z => (by cases z), fun _ => rfl⟩ | exact ⟨by simp [*], fun _ => ⟨rfl, rfl⟩, fun z => (by cases z)⟩)
local macro_rules | `(tactic| walk_at "go") => `(tactic| (walk_at "w"; repeat ((first | (refine And.intro ?left ?_; (case left => walk_at "side")) | (refine Br.t ?_) | (refine Br.f ?_)); walk_at "w")))
section
variable {P : Program} {w : World} {K : PySem.W.Frag} {mg : Str → Option Value} {base : Heap}
abbrev s_weighed : Stmt := topS 17
abbrev N_weighed : List Str := ["yard", "weights", "deed", "mark"]
theorem sc_weighed : FnScope N_weighed ["yard", "weights"] (defScope s_weighed) := ⟨rfl, rfl, rfl, by decide +kernel, rfl, by decide +kernel, by decide +kernel⟩
def weighedD (y : Yard) (ws : List Int) : D := if ∃ d ∈ y.deeds, d.cost < fallD d ws then .none else .int (wSum ws y.start - topD y ws)
def sp_weighed : SpD := fun Γ Q _ => ∃ (y : Yard) (ws : List Int), Γ = [.fz (yD y), .fz (lI ws)] ∧ GoodY y ∧ ws.length = y.marks.length ∧ ((∃ d ∈ y.deeds, d.cost < fallD d ws) → Q (.fz .none) Γ) ∧ ((∀ d ∈ y.deeds, fallD d ws ≤ d.cost) → Q (.fz (.int (wSum ws y.start - topD y ws))) Γ)
theorem ms_weighed : MonoSp sp_weighed := fun Γ Q Q' E E' h _ ⟨y, ws, e, g, g2, q1, q2⟩ => ⟨y, ws, e, g, g2, fun z => h _ _ (q1 z), fun z => h _ _ (q2 z)⟩
theorem ok_weighed {f : Addr} {fd : FuncData} (F : Fun K "weighed" "weighed" s_weighed f fd) (B : Bl mg) (D_need_yard : DefOk P w K mg base 3 "need_yard" ["yard"] 1 sp_need) (D_fall_of : DefOk P w K mg base 1 "fall_of" ["deed", "weights"] 2 sp_fall)
    (D_top_of : DefOk P w K mg base 4 "top_of" ["yard", "weights"] 2 sp_top) : FnOk P w K mg base CX0 5 f fd ["yard", "weights"] (liftSp K 2 sp_weighed) := by
  refine fnd F sc_weighed 2 rfl ms_weighed (fun X cdv A outer s H E hX hr => ?_)
  subst hX
  have hu := hu64 hr
  refine ⟨_, (pds_cons (pd_expr (pd_def D_need_yard hr (pad_cons (pdv 0) pad_nil)))
 (pds_cons (pd_for PassesOwn.never rfl (pid_seq (pd_ix (pdv 0) pd_int)) (pgd_name 2 sc_weighed.nd) (pds_one (pd_if (pb_cmp od_gt (pd_def D_fall_of hr (pad_cons (pdv 2) (pad_cons (pdv 1) pad_nil))) (pd_ix (pdv 2) pd_int)) (pds_one (pd_ret pd_non)) pds_nil)))
 (pds_one (pd_ret (pd_op od_sub (pd_callB (cd_sum rfl) rfl B.sum bt_sum (pad_cons (pd_lc [("mark", 3)] rfl sc_weighed.nd (pid_seq (pd_ix (pdv 0) pd_int)) (blkOk_by (N := N_weighed) (sc := defScope s_weighed) (by decide +kernel)) (fun _ _ _ _ _ => pgc_name 3 sc_weighed.nd) (fun _ _ _ _ _ => pbs_nil) (fun _ _ _ _ _ => (pd_ix (pdv 1) (pdv 3)))) pad_nil)) (pd_def D_top_of hr (pad_cons (pdv 0) (pad_cons (pdv 1) pad_nil)))))))), fun Γ Q E' hl hsp => ?_⟩
  obtain ⟨y, ws, rfl, g, g2, q1, q2⟩ := hsp
  have gd : ∀ d ∈ y.deeds, inW ws.length d.strikes ∧ inW ws.length d.sets := fun d hd => by
    obtain ⟨i, hi⟩ := List.mem_iff_getElem?.mp hd
    have gz := g.dd i d hi
    rw [g2]
    exact ⟨inW_of gz.sk, inW_of gz.st⟩
  walk_at "go"
  refine ⟨y, rfl, g, ?_⟩
  walk_at "go"
  intro mf
  refine ForR.of (fun us _ Γ => (∃ c d : SV, Γ = [.fz (yD y), .fz (lI ws), c, d]) ∧ ∀ d ∈ us, fallD d ws ≤ d.cost) ⟨⟨_, _, rfl⟩, fun _ h => by cases h⟩ (fun _ _ _ _ _ => trivial) (fun us x rest Γ eu ih => ?_) (fun Γ ih => ?_) mf
  · obtain ⟨⟨c, d, rfl⟩, ih⟩ := ih
    have hx : x ∈ y.deeds := by rw [← eu]; simp
    walk_at "go"
    refine ⟨x, ws, rfl, (gd x hx).1, (gd x hx).2, ?_⟩
    walk_at "go"
    refine ⟨fun h => ?_, fun h => ?_⟩
    · walk_at "go"
      exact q1 ⟨x, hx, of_decide_eq_true h⟩
    · walk_at "go"
      refine ⟨⟨_, _, rfl⟩, fun d hd => ?_⟩
      rcases List.mem_append.mp hd with z | z
      · exact ih d z
      · rw [List.mem_singleton.mp z]
        have := of_decide_eq_false h
        omega
  · obtain ⟨⟨c, d, rfl⟩, ih⟩ := ih
    obtain ⟨b1, b2⟩ := areMarks_iff.mp g.b
    walk_at "w"
    intro mc
    refine LcR.ints mc (fun _ => true) (fun m => .int (wAt ws m)) trivial (fun x hx => ?_) (fun a => ?_)
    · walk_at "go"
      refine ⟨fun _ => ?_, fun z => (by cases z)⟩
      walk_at "go"
      rw [wAt_get (by rw [g2]; exact b2 x hx)]
      exact ⟨rfl, rfl⟩
    · rw [filt_true]
      walk_at "w"
      refine ⟨y.start.map (wAt ws), by rw [List.map_map]; rfl, ?_⟩
      walk_at "go"
      refine ⟨y, ws, rfl, g, g2, ?_⟩
      walk_at "go"
      exact q2 ih

end
end K
namespace K
open PySem PySem.Spec PyProof.Rows L2 DL
local macro_rules | `(tactic| walk_at "w") => `(tactic| conv => whnf)
local macro_rules | `(tactic| walk_at "side") => `(tactic| first | rfl | exact True.intro | assumption | exact shal_nil | exact shal_int | exact shal_bool | exact shal_str | exact flat_ints _ | exact flat_strs _ | omega | exact le_line (Nat.le_of_ble_eq_true rfl))
local macro_rules | `(tactic| walk_at "lc") => `(tactic| first | exact ⟨rfl, fun _ => ⟨rfl, rfl⟩, fun _ => rfl⟩ | exact ⟨rfl, fun _ => ⟨rfl, rfl⟩, fun z => (by cases z)⟩ | exact ⟨fun _ => ⟨rfl, rfl⟩, fun _ => rfl⟩ | exact ⟨fun _ => ⟨rfl, rfl⟩, fun z => (by cases z)⟩)
local macro_rules | `(tactic| walk_at "lch") => `(tactic| first | exact ⟨by simp [*], fun _ => ⟨rfl, rfl⟩, fun _ => rfl⟩ | exact ⟨by simp [*], fun z => (by cases z), fun _ => rfl⟩ | exact ⟨by simp [*], fun _ => ⟨rfl, rfl⟩, fun z => (by cases z)⟩)
local macro_rules | `(tactic| walk_at "go") => `(tactic| (walk_at "w"; repeat ((first | (refine And.intro ?left ?_; (case left => walk_at "side")) | (refine Br.t ?_) | (refine Br.f ?_)); walk_at "w")))
section
variable {P : Program} {w : World} {K : PySem.W.Frag} {mg : Str → Option Value} {base : Heap}
abbrev s_law : Stmt := topS 33
abbrev N_law : List Str := ["_law_script", "_law_d", "_law_turn", "_law_t", "_law_weights_here", "_law_spots", "_law_due", "_law_deed", "_law_some_here", "_law_top", "_law_handed", "_law_found", "_law_shown", "_law_one", "_law_k"]
theorem sc_law : FnScope N_law ["_law_script"] (defScope s_law) := ⟨rfl, rfl, rfl, by decide +kernel, rfl, by decide +kernel, by decide +kernel⟩
theorem fitY {y : Yard} (g : GoodY y) : ∀ d ∈ y.deeds, FitD y.marks.length d := fun d hd => by
  obtain ⟨i, hi⟩ := List.mem_iff_getElem?.mp hd
  have gz := g.dd i d hi
  have a := areMarks_iff.mp gz.nd
  have b := areMarks_iff.mp gz.st
  have c := areMarks_iff.mp gz.sk
  exact ⟨a.1, b.1, c.1, a.2, b.2, c.2, gz.apart⟩
theorem all_sub {xs ys : List Int} : (xs.all fun m => decide (m ∈ ys)) = true ↔ ∀ m ∈ xs, m ∈ ys := by simp
def dearT (y : Yard) (ws : List Int) (x : Int) : Bool := match y.deeds[x.toNat]? with
  | some d => decide (d.cost < fallD d ws)
  | none => false
theorem dearT_at {y : Yard} {ws : List Int} {j : Nat} (h : j < y.deeds.length) : dearT y ws (j : Int) = decide (y.deeds[j].cost < fallD y.deeds[j] ws) := by
  unfold dearT
  rw [Int.toNat_natCast, List.getElem?_eq_getElem h]
theorem dear_all {y : Yard} {ws : List Int} : ((rgI 0 (y.deeds.length : Int)).all fun x => !dearT y ws x) = true ↔ ∀ d ∈ y.deeds, fallD d ws ≤ d.cost := by
  rw [List.all_eq_true]
  constructor
  · intro h d hd
    obtain ⟨j, hj, rfl⟩ := List.mem_iff_getElem.mp hd
    have h := h (j : Int) (rgI_mem.mpr ⟨by omega, by omega⟩)
    rw [dearT_at hj] at h
    have h := of_decide_eq_false (Bool.not_eq_true' _ ▸ h)
    omega
  · intro h x hx
    obtain ⟨x0, x1⟩ := rgI_mem.mp hx
    obtain ⟨j, rfl⟩ : ∃ j : Nat, x = (j : Int) := ⟨x.toNat, by omega⟩
    have hj : j < y.deeds.length := by omega
    rw [dearT_at hj, decide_eq_false (by have := h _ (List.getElem_mem hj); omega)]
    rfl
def sp_law : SpD := fun Γ Q _ => ∃ ns : List Int, Γ = [.fz (lI ns)] ∧ ns.length ≤ 63 ∧ Q (.fz (.bool true)) Γ
theorem ms_law : MonoSp sp_law := fun Γ Q Q' E E' h _ ⟨ns, e, g, q⟩ => ⟨ns, e, g, h _ _ q⟩
theorem ok_law {f : Addr} {fd : FuncData} (F : Fun K "law" "law" s_law f fd) (B : Bl mg) (D__law_dice : DefOk P w K mg base 1 "_law_dice" ["_law_script", "_law_k"] 2 sp_dice)
    (D__law_yard : DefOk P w K mg base 4 "_law_yard" ["_law_d", "_law_upto", "_law_acts"] 3 sp_yard) (D__law_has : DefOk P w K mg base 1 "_law_has" ["_law_state", "_law_some_here"] 2 sp_lhas) (D__law_weights : DefOk P w K mg base 2 "_law_weights" ["_law_d", "_law_t"] 2 sp_weights)
    (D__law_every : DefOk P w K mg base 1 "_law_every" ["_law_many"] 1 sp_every) (D__law_weight : DefOk P w K mg base 1 "_law_weight" ["_law_weights_here", "_law_state"] 2 sp_weight) (D__law_after : DefOk P w K mg base 1 "_law_after" ["_law_state", "_law_deed"] 2 sp_lafter)
    (D__law_alike : DefOk P w K mg base 2 "_law_alike" ["_law_found", "_law_due"] 2 (spAl 2)) (D__law_alikeO : DefOk P w K mg base 3 "_law_alike" ["_law_found", "_law_due"] 2 (spAlO 2)) (D_falls : DefOk P w K mg base 4 "falls" ["yard", "weights"] 2 sp_falls)
    (D_top_of : DefOk P w K mg base 4 "top_of" ["yard", "weights"] 2 sp_top) (D_weighed : DefOk P w K mg base 5 "weighed" ["yard", "weights"] 2 sp_weighed) : FnOk P w K mg base CX0 6 f fd ["_law_script"] (liftSp K 1 sp_law) := by
  refine fnd F sc_law 1 rfl ms_law (fun X cdv A outer s H E hX hr => ?_)
  subst hX
  have hu := hu64 hr
  refine ⟨_, (pds_cons (pd_set 1 (pd_def D__law_dice hr (pad_cons (pdv 0) (pad_cons pd_int pad_nil))) sc_law.nd)
 (pds_cons (pd_for PassesOwn.never rfl (pid_rg1 rfl B.range pd_int) (pgd_name 2 sc_law.nd) (pds_cons (pd_set 3 (pd_def D__law_yard hr (pad_cons (pdv 1) (pad_cons pd_int (pad_cons pd_int pad_nil)))) sc_law.nd)
 (pds_cons (pd_set 4 (pd_def D__law_weights hr (pad_cons (pdv 1) (pad_cons (pdv 3) pad_nil))) sc_law.nd)
 (pds_cons (pd_set 5 (pd_def D__law_every hr (pad_cons (pd_callB cd_len rfl B.len bt_len (pad_cons (pd_ix (pdv 3) pd_int) pad_nil)) pad_nil)) sc_law.nd)
 (pds_cons (pd_set 6 (pd_lst pad_nil) sc_law.nd)
 (pds_cons (pd_for PassesOwn.never rfl (pid_seq (pd_ix (pdv 3) pd_int)) (pgd_name 7 sc_law.nd) (pds_cons (pd_sfz 8 (pd_setLc 8 [("_law_one", 13)] rfl sc_law.nd (pid_seq (pdv 5)) (blkOk_by (N := N_law) (sc := defScope s_law) (by decide +kernel)) (fun _ _ _ _ _ => pgc_name 13 sc_law.nd) (fun _ _ _ _ _ => pbs_one (pb_val (pd_def D__law_has hr (pad_cons (pdv 13) (pad_cons (pd_ix (pdv 7) pd_int) pad_nil))))) (fun _ _ _ _ _ => (pdv 13))))
 (pds_one (pd_expr (pd_mt 6 mt_app PySem.F.plainAttrs_list PySem.F.slot_list_append PySem.F.type_list_append (pv 6) (pad_cons (pd_callB (cd_max rfl) rfl B.max bt_max (pad_cons (pd_lc [("_law_one", 13)] rfl sc_law.nd (pid_seq (pdv 8)) (blkOk_by (N := N_law) (sc := defScope s_law) (by decide +kernel)) (fun _ _ _ _ _ => pgc_name 13 sc_law.nd) (fun _ _ _ _ _ => pbs_nil) (fun _ _ _ _ _ => (pd_op od_sub (pd_def D__law_weight hr (pad_cons (pdv 4) (pad_cons (pdv 13) pad_nil))) (pd_def D__law_weight hr (pad_cons (pdv 4) (pad_cons (pd_def D__law_after hr (pad_cons (pdv 13) (pad_cons (pdv 7) pad_nil))) pad_nil)))))) pad_nil)) pad_nil))))))
 (pds_cons (pd_set 9 (pd_callB (cd_max rfl) rfl B.max bt_max (pad_cons (pd_lc [("_law_one", 13)] rfl sc_law.nd (pid_seq (pdv 5)) (blkOk_by (N := N_law) (sc := defScope s_law) (by decide +kernel)) (fun _ _ _ _ _ => pgc_name 13 sc_law.nd) (fun _ _ _ _ _ => pbs_one (pb_val (pd_def D__law_has hr (pad_cons (pdv 13) (pad_cons (pd_ix (pdv 3) pd_int) pad_nil))))) (fun _ _ _ _ _ => (pd_def D__law_weight hr (pad_cons (pdv 4) (pad_cons (pdv 13) pad_nil))))) pad_nil)) sc_law.nd)
 (pds_cons (pd_set 10 (pd_fz (pd_callTy cd_list rfl B.list bt_list (pad_cons (pdv 4) pad_nil))) sc_law.nd)
 (pds_cons (pd_set 11 (pd_def D_falls hr (pad_cons (pdv 3) (pad_cons (pdv 10) pad_nil))) sc_law.nd)
 (pds_cons (pd_if (PBW.pb (pbw_or (pb_not (pb_val (pd_def D__law_alikeO hr (pad_cons (pdv 11) (pad_cons (pd_fz (pdv 6)) pad_nil))))) (pbw_or1 (pb_not (pb_val (pd_def D__law_alike hr (pad_cons (pd_def D_top_of hr (pad_cons (pdv 3) (pad_cons (pdv 10) pad_nil))) (pad_cons (pdv 9) pad_nil)))))))) (pds_one (pd_ret pd_bl)) pds_nil)
 (pds_cons (pd_expr (pd_mt 11 mt_app PySem.F.plainAttrs_list PySem.F.slot_list_append PySem.F.type_list_append (pv 11) (pad_cons pd_int pad_nil)))
 (pds_cons (pd_set 12 (pd_op od_sub (pd_def D__law_weight hr (pad_cons (pdv 4) (pad_cons (pd_ix (pdv 3) pd_int) pad_nil))) (pdv 9)) sc_law.nd)
 (pds_cons (pd_if (pb_cmp (od_ne hu) (pd_lc [("_law_k", 14)] rfl sc_law.nd (pid_rg1 rfl B.range (pd_callB cd_len rfl B.len bt_len (pad_cons (pdv 6) pad_nil))) (blkOk_by (N := N_law) (sc := defScope s_law) (by decide +kernel)) (fun _ _ _ _ _ => pgc_name 14 sc_law.nd) (fun _ _ _ _ _ => pbs_one (pb_cmp od_gt (pd_ix (pdv 6) (pdv 14)) (pd_ix (pd_ix (pd_ix (pdv 3) pd_int) (pdv 14)) pd_int))) (fun _ _ _ _ _ => (pdv 14))) (pd_lst pad_nil)) (pds_one (pd_set 12 pd_non sc_law.nd)) pds_nil)
 (pds_one (pd_if (PBW.pb (pbw_or (pb_not (pb_val (pd_def D__law_alike hr (pad_cons (pd_def D_weighed hr (pad_cons (pdv 3) (pad_cons (pdv 10) pad_nil))) (pad_cons (pdv 12) pad_nil))))) (pbw_or (pb_cmp (od_ne hu) (pdv 10) (pdv 4)) (pbw_or1 (pb_not (pb_val (pd_def D__law_alike hr (pad_cons (pd_fz (pd_def D_falls hr (pad_cons (pdv 3) (pad_cons (pdv 4) pad_nil)))) (pad_cons (pd_fz (pdv 6)) pad_nil))))))))) (pds_one (pd_ret pd_bl)) pds_nil)))))))))))))))
 (pds_one (pd_ret pd_bl)))), fun Γ Q E' hl hsp => ?_⟩
  obtain ⟨ns, rfl, hns, q⟩ := hsp
  walk_at "go"
  refine ⟨ns, 0, rfl, hns, ⟨by decide, by decide⟩, fun p xs dx => ?_⟩
  walk_at "go"
  refine ⟨RgOk.of_le (by decide) (by decide) (by decide) (by decide), ?_⟩
  walk_at "w"
  intro mf
  refine ForR.rg0 (fun _ Γ => ∃ (xs : List Int) (c2 c3 c4 c5 c6 c7 c8 c9 c10 c11 c12 : SV), Γ = [.fz (lI ns), dc p xs, c2, c3, c4, c5, c6, c7, c8, c9, c10, c11, c12, .no, .no] ∧ Dice xs) ⟨xs, _, _, _, _, _, _, _, _, _, _, _, rfl, dx⟩ (fun i Γ hi ih => ?_) (fun Γ ih => ?_)
  · obtain ⟨xs, c2, c3, c4, c5, c6, c7, c8, c9, c10, c11, c12, rfl, dx⟩ := ih
    walk_at "go"
    refine ⟨p, xs, 6, 12, rfl, dx, ⟨by decide, by decide⟩, ⟨by decide, by decide⟩, fun xs y d1 gy yl1 yl2 => ?_⟩
    have gd2 := gy.d2
    have fit := fitY gy
    obtain ⟨wm1, wm2⟩ := areMarks_iff.mp gy.w
    obtain ⟨bm1, bm2⟩ := areMarks_iff.mp gy.b
    walk_at "go"
    refine ⟨p, xs, y, rfl, d1, fun xs ws d2 wl => ?_⟩
    rw [← wl] at fit wm2 bm2
    have hlm : (y.marks.map PyData.str).length = ws.length := by rw [List.length_map, wl]
    walk_at "go"
    refine ⟨_, rfl, by omega, ?_⟩
    rw [hlm]
    have el : (every ws.length).length ≤ 1000 := by
      rw [every_len]
      exact Nat.le_trans (Nat.pow_le_pow_right (n := 2) (by decide) (show ws.length ≤ 6 by omega)) (by decide)
    walk_at "go"
    intro p6
    walk_at "go"
    intro mf
    refine ForR.of (fun us _ Γ => ∃ (c7 c8 : SV), Γ = [.fz (lI ns), dc p xs, .fz (.int (i : Nat)), .fz (yD y), .fz (lI ws), .fz (.list ((every ws.length).map tI)), .ow p6 (.lst ((us.map fun d => fallD d ws).map .int)), c7, c8, c9, c10, c11, c12, .no, .no]) ⟨_, _, rfl⟩ (fun _ _ _ _ _ => trivial) (fun us d rest Γ eu ih => ?_) (fun Γ ih => ?_) mf
    · obtain ⟨c7, c8, rfl⟩ := ih
      have hd : d ∈ y.deeds := by rw [← eu]; simp
      have fd := fit d hd
      have ul : us.length ≤ 16 := by
        have := congrArg List.length eu
        simp only [List.length_append, List.length_cons] at this
        omega
      walk_at "go"
      intro mc
      refine LcR.of mc (fun one => d.needs.all fun m => decide (m ∈ one)) tI trivial (fun x hx => ?_) (fun a => ?_)
      · walk_at "go"
        refine ⟨_, x, d.needs, rfl, .inl rfl, ?_⟩
        walk_at "go"
        exact ⟨fun _ => ⟨rfl, rfl⟩, fun _ => rfl⟩
      · generalize hss : ((every ws.length).filter fun one => d.needs.all fun m => decide (m ∈ one)) = ss
        have ssm : ∀ s : List Int, s ∈ ss ↔ (s.Pairwise (· < ·) ∧ ∀ m ∈ s, 0 ≤ m ∧ m < (ws.length : Int)) ∧ ∀ m ∈ d.needs, m ∈ s := fun s => by
          rw [← hss, List.mem_filter, every_mem, all_sub]
        walk_at "go"
        intro mc2
        refine LcR.of mc2 (fun _ => true) (fun s => .int (wSum ws s - wSum ws (aft s d))) trivial (fun s hs => ?_) (fun a2 => ?_)
        · obtain ⟨⟨s1, s2⟩, s3⟩ := (ssm s).mp hs
          have sl : s.length ≤ 100 := by
            have := rise_len s1 s2 (by omega)
            omega
          have dl : d.sets.length ≤ 100 := by
            have := rise_len fd.st fd.str (by omega)
            omega
          walk_at "go"
          refine ⟨fun _ => ?_, fun z => (by cases z)⟩
          walk_at "go"
          refine ⟨ws, s, rfl, s2, ?_⟩
          walk_at "go"
          refine ⟨s, d, rfl, s1, sl, dl, fd.st, fd.apart, ?_⟩
          walk_at "go"
          refine ⟨ws, aft s d, rfl, aft_rg fd s2, ?_⟩
          walk_at "go"
          first | exact rfl | exact ⟨rfl, rfl⟩
        · rw [filt_true]
          obtain ⟨s0, m1, m2, m3, m4⟩ := fall_max fd
          walk_at "w"
          refine ⟨ss.map fun s => wSum ws s - wSum ws (aft s d), by rw [List.map_map]; rfl, ?_, fun M h1 h2 => ?_⟩
          · rw [List.length_map]
            exact List.length_pos_iff.mpr fun z => by
              have := (ssm s0).mpr ⟨⟨m1, m2⟩, m3⟩
              rw [z] at this
              cases this
          have eM : M = fallD d ws := by
            obtain ⟨s, hs, rfl⟩ := List.mem_map.mp h1
            obtain ⟨⟨s1, s2⟩, s3⟩ := (ssm s).mp hs
            have u := fall_ub fd s1 s2 s3
            have v := h2 _ (List.mem_map.mpr ⟨s0, (ssm s0).mpr ⟨⟨m1, m2⟩, m3⟩, rfl⟩)
            omega
          subst eM
          walk_at "w"
          refine ⟨by rw [List.length_map, List.length_map]; exact le_line (by omega), ?_⟩
          rw [show (us.map fun d => fallD d ws).map PyData.int ++ [.int (fallD d ws)] = ((us ++ [d]).map fun d => fallD d ws).map PyData.int by simp]
          walk_at "go"
          exact ⟨_, _, rfl⟩
    · obtain ⟨c7, c8, rfl⟩ := ih
      walk_at "go"
      intro mc
      refine LcR.of mc (fun one => y.wish.all fun m => decide (m ∈ one)) (fun s => .int (wSum ws s)) trivial (fun s hs => ?_) (fun a => ?_)
      · have s2 := (every_mem.mp hs).2
        walk_at "go"
        refine ⟨_, s, y.wish, rfl, .inl rfl, ?_⟩
        walk_at "go"
        refine ⟨fun _ => ?_, fun _ => rfl⟩
        walk_at "go"
        refine ⟨ws, s, rfl, s2, ?_⟩
        walk_at "go"
        first | exact rfl | exact ⟨rfl, rfl⟩
      have ssm : ∀ s : List Int, s ∈ ((every ws.length).filter fun one => y.wish.all fun m => decide (m ∈ one)) ↔ (s.Pairwise (· < ·) ∧ ∀ m ∈ s, 0 ≤ m ∧ m < (ws.length : Int)) ∧ ∀ m ∈ y.wish, m ∈ s := fun s => by
        rw [List.mem_filter, every_mem, all_sub]
      generalize ((every ws.length).filter fun one => y.wish.all fun m => decide (m ∈ one)) = ss at ssm
      obtain ⟨s0, m1, m2, m3, m4⟩ := top_max wm2
      walk_at "w"
      refine ⟨ss.map fun s => wSum ws s, by rw [List.map_map]; rfl, ?_, fun M h1 h2 => ?_⟩
      · rw [List.length_map]
        exact List.length_pos_iff.mpr fun z => by
          have := (ssm s0).mpr ⟨⟨m1, m2⟩, m3⟩
          rw [z] at this
          cases this
      have eM : M = topD y ws := by
        obtain ⟨s, hs, rfl⟩ := List.mem_map.mp h1
        obtain ⟨⟨s1, s2⟩, s3⟩ := (ssm s).mp hs
        have u := top_ub wm1 s1 s2 s3
        have v := h2 _ (List.mem_map.mpr ⟨s0, (ssm s0).mpr ⟨⟨m1, m2⟩, m3⟩, rfl⟩)
        unfold topD
        omega
      subst eM
      walk_at "go"
      intro p10
      walk_at "go"
      refine ⟨y, ws, rfl, gy, wl, fun p11 => ?_⟩
      walk_at "go"
      refine ⟨p11, _, rfl, by rw [List.length_map, List.length_map]; omega, fun d hd => ?_, ?_⟩
      · obtain ⟨z, _, rfl⟩ := List.mem_map.mp hd
        exact .int
      walk_at "go"
      refine ⟨y, ws, rfl, gy, wl, ?_⟩
      walk_at "go"
      refine ⟨_, rfl, .int, ?_⟩
      walk_at "go"
      have dl : ((y.deeds.map fun d => fallD d ws).map PyData.int).length = y.deeds.length := by rw [List.length_map, List.length_map]
      refine ⟨by rw [dl]; exact le_line (by omega), ?_⟩
      walk_at "go"
      refine ⟨ws, y.start, rfl, bm2, ?_⟩
      walk_at "go"
      refine ⟨RgOk.of_le (by decide) (by omega) (by decide) (by omega), ?_⟩
      walk_at "w"
      rw [rgD_ints]
      intro mc
      refine LcR.ints mc (dearT y ws) .int trivial (fun x hx => ?_) (fun a3 => ?_)
      · obtain ⟨x0, x1⟩ := rgI_mem.mp hx
        obtain ⟨j, rfl⟩ : ∃ j : Nat, x = (j : Int) := ⟨x.toNat, by omega⟩
        have hj : j < y.deeds.length := by omega
        have e0 : y.deeds[j]? = some y.deeds[j] := List.getElem?_eq_getElem hj
        have e1 : ((y.deeds.map fun d => fallD d ws).map PyData.int)[j]? = some (.int (fallD y.deeds[j] ws)) := by rw [List.getElem?_map, List.getElem?_map, e0]; rfl
        have e2 : (y.deeds.map dD)[j]? = some (dD y.deeds[j]) := by rw [List.getElem?_map, e0]; rfl
        walk_at "go"
        rw [atD_nat, e1]
        walk_at "go"
        rw [atD_nat, e2]
        walk_at "go"
        rw [dearT_at hj]
        walk_at "lc"
      walk_at "go"
      intro p4
      walk_at "go"
      rw [eqv_nil, isEmpty_map, isEmpty_filter, dl]
      refine ⟨fun h => ?_, fun h => ?_⟩
      · have hx : ∃ d ∈ y.deeds, d.cost < fallD d ws := Classical.byContradiction fun z => by
          rw [dear_all.mpr fun d hd => Int.not_lt.mp fun z2 => z ⟨d, hd, z2⟩] at h
          cases h
        walk_at "go"
        refine ⟨y, ws, rfl, gy, wl, fun _ => ?_, fun z => absurd hx fun ⟨d, h1, h2⟩ => by have := z d h1; omega⟩
        walk_at "go"
        refine ⟨_, rfl, .non, ?_⟩
        walk_at "go"
        refine ⟨.inl (depth_lI ws), ?_⟩
        walk_at "w"
        rw [show PyData.eqv (PyData.list (ws.map PyData.int)) (lI ws) = decide (ws = ws) from eqv_lI ws ws, decide_eq_true rfl]
        walk_at "go"
        refine ⟨y, ws, rfl, gy, wl, fun p13 => ?_⟩
        walk_at "go"
        refine ⟨_, rfl, .lst (by omega) fun d hd => ?_, ?_⟩
        · obtain ⟨z, _, rfl⟩ := List.mem_map.mp hd
          exact .int
        walk_at "go"
        exact ⟨_, _, _, _, _, _, _, _, _, _, _, _, rfl, d2⟩
      · have hx : ∀ d ∈ y.deeds, fallD d ws ≤ d.cost := dear_all.mp (by simpa only [Bool.not_eq_false'] using h)
        walk_at "go"
        refine ⟨y, ws, rfl, gy, wl, fun ⟨d, h1, h2⟩ => absurd (hx d h1) (by omega), fun _ => ?_⟩
        walk_at "go"
        refine ⟨_, rfl, .int, ?_⟩
        walk_at "go"
        refine ⟨.inl (depth_lI ws), ?_⟩
        walk_at "w"
        rw [show PyData.eqv (PyData.list (ws.map PyData.int)) (lI ws) = decide (ws = ws) from eqv_lI ws ws, decide_eq_true rfl]
        walk_at "go"
        refine ⟨y, ws, rfl, gy, wl, fun p13 => ?_⟩
        walk_at "go"
        refine ⟨_, rfl, .lst (by omega) fun d hd => ?_, ?_⟩
        · obtain ⟨z, _, rfl⟩ := List.mem_map.mp hd
          exact .int
        walk_at "go"
        exact ⟨_, _, _, _, _, _, _, _, _, _, _, _, rfl, d2⟩
  · obtain ⟨xs, c2, c3, c4, c5, c6, c7, c8, c9, c10, c11, c12, rfl, dx⟩ := ih
    walk_at "go"
    exact q

end
end K
namespace K
open PySem PySem.Spec PyProof.Rows L2 DL
theorem all_mk {l : PySem.W.OpenLaw} {w : World} {K : PySem.W.Frag} {h : Heap} {mg : Str → Option Value} {fa : Addr} (X : K.In h) (G : h.Ns mainGlobals mg) (hfa : mg "law" = some (.ref fa))
    {f0 : Addr} {od0 an0 : Option Addr} {sl0 : Array (Option Value)} {oc0 kV0 dc0 pm0 cd0 ct0 : Value}
    {f1 : Addr} {od1 an1 : Option Addr} {sl1 : Array (Option Value)} {oc1 kV1 dc1 pm1 cd1 ct1 : Value}
    {f2 : Addr} {od2 an2 : Option Addr} {sl2 : Array (Option Value)} {oc2 kV2 dc2 pm2 cd2 ct2 : Value}
    {f3 : Addr} {od3 an3 : Option Addr} {sl3 : Array (Option Value)} {oc3 kV3 dc3 pm3 cd3 ct3 : Value}
    {f4 : Addr} {od4 an4 : Option Addr} {sl4 : Array (Option Value)} {oc4 kV4 dc4 pm4 cd4 ct4 : Value}
    {f5 : Addr} {od5 an5 : Option Addr} {sl5 : Array (Option Value)} {oc5 kV5 dc5 pm5 cd5 ct5 : Value}
    {f6 : Addr} {od6 an6 : Option Addr} {sl6 : Array (Option Value)} {oc6 kV6 dc6 pm6 cd6 ct6 : Value}
    {f7 : Addr} {od7 an7 : Option Addr} {sl7 : Array (Option Value)} {oc7 kV7 dc7 pm7 cd7 ct7 : Value}
    {f8 : Addr} {od8 an8 : Option Addr} {sl8 : Array (Option Value)} {oc8 kV8 dc8 pm8 cd8 ct8 : Value}
    {f9 : Addr} {od9 an9 : Option Addr} {sl9 : Array (Option Value)} {oc9 kV9 dc9 pm9 cd9 ct9 : Value}
    {f10 : Addr} {od10 an10 : Option Addr} {sl10 : Array (Option Value)} {oc10 kV10 dc10 pm10 cd10 ct10 : Value}
    {f11 : Addr} {od11 an11 : Option Addr} {sl11 : Array (Option Value)} {oc11 kV11 dc11 pm11 cd11 ct11 : Value}
    {f12 : Addr} {od12 an12 : Option Addr} {sl12 : Array (Option Value)} {oc12 kV12 dc12 pm12 cd12 ct12 : Value}
    {f13 : Addr} {od13 an13 : Option Addr} {sl13 : Array (Option Value)} {oc13 kV13 dc13 pm13 cd13 ct13 : Value}
    {f14 : Addr} {od14 an14 : Option Addr} {sl14 : Array (Option Value)} {oc14 kV14 dc14 pm14 cd14 ct14 : Value}
    {f15 : Addr} {od15 an15 : Option Addr} {sl15 : Array (Option Value)} {oc15 kV15 dc15 pm15 cd15 ct15 : Value}
    {f16 : Addr} {od16 an16 : Option Addr} {sl16 : Array (Option Value)} {oc16 kV16 dc16 pm16 cd16 ct16 : Value}
    {f17 : Addr} {od17 an17 : Option Addr} {sl17 : Array (Option Value)} {oc17 kV17 dc17 pm17 cd17 ct17 : Value}
    {f18 : Addr} {od18 an18 : Option Addr} {sl18 : Array (Option Value)} {oc18 kV18 dc18 pm18 cd18 ct18 : Value}
    {f19 : Addr} {od19 an19 : Option Addr} {sl19 : Array (Option Value)} {oc19 kV19 dc19 pm19 cd19 ct19 : Value}
    {f20 : Addr} {od20 an20 : Option Addr} {sl20 : Array (Option Value)} {oc20 kV20 dc20 pm20 cd20 ct20 : Value}
    {f21 : Addr} {od21 an21 : Option Addr} {sl21 : Array (Option Value)} {oc21 kV21 dc21 pm21 cd21 ct21 : Value}
    {f22 : Addr} {od22 an22 : Option Addr} {sl22 : Array (Option Value)} {oc22 kV22 dc22 pm22 cd22 ct22 : Value}
    {f23 : Addr} {od23 an23 : Option Addr} {sl23 : Array (Option Value)} {oc23 kV23 dc23 pm23 cd23 ct23 : Value}
    {t0 : Tok}
    {t1 : Tok}
    {t2 : Tok}
    {t3 : Tok}
    {t4 : Tok}
    (a0 : PySem.W.nsIn K mainGlobals "is_name" = some (some (.ref f0))) (l0 : K.lookup f0 = some ⟨oc0, od0, .func (PySem.W.fnOf "is_name" "is_name" (defArgs s_is_name) (defBody s_is_name) (defScope s_is_name) .none kV0 dc0 pm0 an0 cd0 ct0), sl0⟩) (c0 : PySem.W.codeIn K cd0 "is_name" = true) (k0 : PySem.W.keepIn K (.ref f0) = true)
    (a1 : PySem.W.nsIn K mainGlobals "are_marks" = some (some (.ref f1))) (l1 : K.lookup f1 = some ⟨oc1, od1, .func (PySem.W.fnOf "are_marks" "are_marks" (defArgs s_are_marks) (defBody s_are_marks) (defScope s_are_marks) .none kV1 dc1 pm1 an1 cd1 ct1), sl1⟩) (c1 : PySem.W.codeIn K cd1 "are_marks" = true) (k1 : PySem.W.keepIn K (.ref f1) = true)
    (a2 : PySem.W.nsIn K mainGlobals "is_deed" = some (some (.ref f2))) (l2 : K.lookup f2 = some ⟨oc2, od2, .func (PySem.W.fnOf "is_deed" "is_deed" (defArgs s_is_deed) (defBody s_is_deed) (defScope s_is_deed) .none kV2 dc2 pm2 an2 cd2 ct2), sl2⟩) (c2 : PySem.W.codeIn K cd2 "is_deed" = true) (k2 : PySem.W.keepIn K (.ref f2) = true)
    (a3 : PySem.W.nsIn K mainGlobals "need_yard" = some (some (.ref f3))) (l3 : K.lookup f3 = some ⟨oc3, od3, .func (PySem.W.fnOf "need_yard" "need_yard" (defArgs s_need_yard) (defBody s_need_yard) (defScope s_need_yard) .none kV3 dc3 pm3 an3 cd3 ct3), sl3⟩) (c3 : PySem.W.codeIn K cd3 "need_yard" = true) (k3 : PySem.W.keepIn K (.ref f3) = true)
    (a4 : PySem.W.nsIn K mainGlobals "_law_dice" = some (some (.ref f4))) (l4 : K.lookup f4 = some ⟨oc4, od4, .func (PySem.W.fnOf "_law_dice" "_law_dice" (defArgs s__law_dice) (defBody s__law_dice) (defScope s__law_dice) .none kV4 dc4 pm4 an4 cd4 ct4), sl4⟩) (c4 : PySem.W.codeIn K cd4 "_law_dice" = true) (k4 : PySem.W.keepIn K (.ref f4) = true)
    (a5 : PySem.W.nsIn K mainGlobals "_law_off" = some (some (.ref f5))) (l5 : K.lookup f5 = some ⟨oc5, od5, .func (PySem.W.fnOf "_law_off" "_law_off" (defArgs s__law_off) (defBody s__law_off) (defScope s__law_off) .none kV5 dc5 pm5 an5 cd5 ct5), sl5⟩) (c5 : PySem.W.codeIn K cd5 "_law_off" = true) (k5 : PySem.W.keepIn K (.ref f5) = true)
    (a6 : PySem.W.nsIn K mainGlobals "_law_mixed" = some (some (.ref f6))) (l6 : K.lookup f6 = some ⟨oc6, od6, .func (PySem.W.fnOf "_law_mixed" "_law_mixed" (defArgs s__law_mixed) (defBody s__law_mixed) (defScope s__law_mixed) .none kV6 dc6 pm6 an6 cd6 ct6), sl6⟩) (c6 : PySem.W.codeIn K cd6 "_law_mixed" = true) (k6 : PySem.W.keepIn K (.ref f6) = true)
    (a7 : PySem.W.nsIn K mainGlobals "_law_names" = some (some (.ref f7))) (l7 : K.lookup f7 = some ⟨oc7, od7, .func (PySem.W.fnOf "_law_names" "_law_names" (defArgs s__law_names) (defBody s__law_names) (defScope s__law_names) .none kV7 dc7 pm7 an7 cd7 ct7), sl7⟩) (c7 : PySem.W.codeIn K cd7 "_law_names" = true) (k7 : PySem.W.keepIn K (.ref f7) = true)
    (a8 : PySem.W.nsIn K mainGlobals "_law_some" = some (some (.ref f8))) (l8 : K.lookup f8 = some ⟨oc8, od8, .func (PySem.W.fnOf "_law_some" "_law_some" (defArgs s__law_some) (defBody s__law_some) (defScope s__law_some) .none kV8 dc8 pm8 an8 cd8 ct8), sl8⟩) (c8 : PySem.W.codeIn K cd8 "_law_some" = true) (k8 : PySem.W.keepIn K (.ref f8) = true)
    (a9 : PySem.W.nsIn K mainGlobals "_law_price" = some (some (.ref f9))) (l9 : K.lookup f9 = some ⟨oc9, od9, .func (PySem.W.fnOf "_law_price" "_law_price" (defArgs s__law_price) (defBody s__law_price) (defScope s__law_price) .none kV9 dc9 pm9 an9 cd9 ct9), sl9⟩) (c9 : PySem.W.codeIn K cd9 "_law_price" = true) (k9 : PySem.W.keepIn K (.ref f9) = true)
    (a10 : PySem.W.nsIn K mainGlobals "_law_parts" = some (some (.ref f10))) (l10 : K.lookup f10 = some ⟨oc10, od10, .func (PySem.W.fnOf "_law_parts" "_law_parts" (defArgs s__law_parts) (defBody s__law_parts) (defScope s__law_parts) .none kV10 dc10 pm10 an10 cd10 ct10), sl10⟩) (c10 : PySem.W.codeIn K cd10 "_law_parts" = true) (k10 : PySem.W.keepIn K (.ref f10) = true)
    (a11 : PySem.W.nsIn K mainGlobals "_law_yard" = some (some (.ref f11))) (l11 : K.lookup f11 = some ⟨oc11, od11, .func (PySem.W.fnOf "_law_yard" "_law_yard" (defArgs s__law_yard) (defBody s__law_yard) (defScope s__law_yard) .none kV11 dc11 pm11 an11 cd11 ct11), sl11⟩) (c11 : PySem.W.codeIn K cd11 "_law_yard" = true) (k11 : PySem.W.keepIn K (.ref f11) = true)
    (a12 : PySem.W.nsIn K mainGlobals "_law_has" = some (some (.ref f12))) (l12 : K.lookup f12 = some ⟨oc12, od12, .func (PySem.W.fnOf "_law_has" "_law_has" (defArgs s__law_has) (defBody s__law_has) (defScope s__law_has) .none kV12 dc12 pm12 an12 cd12 ct12), sl12⟩) (c12 : PySem.W.codeIn K cd12 "_law_has" = true) (k12 : PySem.W.keepIn K (.ref f12) = true)
    (a13 : PySem.W.nsIn K mainGlobals "_law_alike" = some (some (.ref f13))) (l13 : K.lookup f13 = some ⟨oc13, od13, .func (PySem.W.fnOf "_law_alike" "_law_alike" (defArgs s__law_alike) (defBody s__law_alike) (defScope s__law_alike) .none kV13 dc13 pm13 an13 cd13 ct13), sl13⟩) (c13 : PySem.W.codeIn K cd13 "_law_alike" = true) (k13 : PySem.W.keepIn K (.ref f13) = true)
    (a14 : PySem.W.nsIn K mainGlobals "_law_alike" = some (some (.ref f14))) (l14 : K.lookup f14 = some ⟨oc14, od14, .func (PySem.W.fnOf "_law_alike" "_law_alike" (defArgs s__law_alike) (defBody s__law_alike) (defScope s__law_alike) .none kV14 dc14 pm14 an14 cd14 ct14), sl14⟩) (c14 : PySem.W.codeIn K cd14 "_law_alike" = true) (k14 : PySem.W.keepIn K (.ref f14) = true)
    (a15 : PySem.W.nsIn K mainGlobals "fall_of" = some (some (.ref f15))) (l15 : K.lookup f15 = some ⟨oc15, od15, .func (PySem.W.fnOf "fall_of" "fall_of" (defArgs s_fall_of) (defBody s_fall_of) (defScope s_fall_of) .none kV15 dc15 pm15 an15 cd15 ct15), sl15⟩) (c15 : PySem.W.codeIn K cd15 "fall_of" = true) (k15 : PySem.W.keepIn K (.ref f15) = true)
    (a16 : PySem.W.nsIn K mainGlobals "falls" = some (some (.ref f16))) (l16 : K.lookup f16 = some ⟨oc16, od16, .func (PySem.W.fnOf "falls" "falls" (defArgs s_falls) (defBody s_falls) (defScope s_falls) .none kV16 dc16 pm16 an16 cd16 ct16), sl16⟩) (c16 : PySem.W.codeIn K cd16 "falls" = true) (k16 : PySem.W.keepIn K (.ref f16) = true)
    (a17 : PySem.W.nsIn K mainGlobals "top_of" = some (some (.ref f17))) (l17 : K.lookup f17 = some ⟨oc17, od17, .func (PySem.W.fnOf "top_of" "top_of" (defArgs s_top_of) (defBody s_top_of) (defScope s_top_of) .none kV17 dc17 pm17 an17 cd17 ct17), sl17⟩) (c17 : PySem.W.codeIn K cd17 "top_of" = true) (k17 : PySem.W.keepIn K (.ref f17) = true)
    (a18 : PySem.W.nsIn K mainGlobals "_law_after" = some (some (.ref f18))) (l18 : K.lookup f18 = some ⟨oc18, od18, .func (PySem.W.fnOf "_law_after" "_law_after" (defArgs s__law_after) (defBody s__law_after) (defScope s__law_after) .none kV18 dc18 pm18 an18 cd18 ct18), sl18⟩) (c18 : PySem.W.codeIn K cd18 "_law_after" = true) (k18 : PySem.W.keepIn K (.ref f18) = true)
    (a19 : PySem.W.nsIn K mainGlobals "_law_every" = some (some (.ref f19))) (l19 : K.lookup f19 = some ⟨oc19, od19, .func (PySem.W.fnOf "_law_every" "_law_every" (defArgs s__law_every) (defBody s__law_every) (defScope s__law_every) .none kV19 dc19 pm19 an19 cd19 ct19), sl19⟩) (c19 : PySem.W.codeIn K cd19 "_law_every" = true) (k19 : PySem.W.keepIn K (.ref f19) = true)
    (a20 : PySem.W.nsIn K mainGlobals "_law_weight" = some (some (.ref f20))) (l20 : K.lookup f20 = some ⟨oc20, od20, .func (PySem.W.fnOf "_law_weight" "_law_weight" (defArgs s__law_weight) (defBody s__law_weight) (defScope s__law_weight) .none kV20 dc20 pm20 an20 cd20 ct20), sl20⟩) (c20 : PySem.W.codeIn K cd20 "_law_weight" = true) (k20 : PySem.W.keepIn K (.ref f20) = true)
    (a21 : PySem.W.nsIn K mainGlobals "_law_weights" = some (some (.ref f21))) (l21 : K.lookup f21 = some ⟨oc21, od21, .func (PySem.W.fnOf "_law_weights" "_law_weights" (defArgs s__law_weights) (defBody s__law_weights) (defScope s__law_weights) .none kV21 dc21 pm21 an21 cd21 ct21), sl21⟩) (c21 : PySem.W.codeIn K cd21 "_law_weights" = true) (k21 : PySem.W.keepIn K (.ref f21) = true)
    (a22 : PySem.W.nsIn K mainGlobals "weighed" = some (some (.ref f22))) (l22 : K.lookup f22 = some ⟨oc22, od22, .func (PySem.W.fnOf "weighed" "weighed" (defArgs s_weighed) (defBody s_weighed) (defScope s_weighed) .none kV22 dc22 pm22 an22 cd22 ct22), sl22⟩) (c22 : PySem.W.codeIn K cd22 "weighed" = true) (k22 : PySem.W.keepIn K (.ref f22) = true)
    (a23 : PySem.W.nsIn K mainGlobals "law" = some (some (.ref f23))) (l23 : K.lookup f23 = some ⟨oc23, od23, .func (PySem.W.fnOf "law" "law" (defArgs s_law) (defBody s_law) (defScope s_law) .none kV23 dc23 pm23 an23 cd23 ct23), sl23⟩) (c23 : PySem.W.codeIn K cd23 "law" = true) (k23 : PySem.W.keepIn K (.ref f23) = true)
    (e0 : PySem.W.nsIn K mainGlobals "MARKS" = some (some (.int 10 t0)))
    (e1 : PySem.W.nsIn K mainGlobals "DEEDS" = some (some (.int 16 t1)))
    (e2 : PySem.W.nsIn K mainGlobals "COST" = some (some (.int 99 t2)))
    (e3 : PySem.W.nsIn K mainGlobals "LETTERS" = some (some (.int 6 t3)))
    (e4 : PySem.W.nsIn K mainGlobals "SMALL" = some (some (.str "abcdefghijklmnopqrstuvwxyz" t4)))
    (z0 : PySem.W.nsIn K mainGlobals "abs" = some none)
    (z1 : PySem.W.nsIn K mainGlobals "bool" = some none)
    (z2 : PySem.W.nsIn K mainGlobals "dict" = some none)
    (z3 : PySem.W.nsIn K mainGlobals "enumerate" = some none)
    (z4 : PySem.W.nsIn K mainGlobals "int" = some none)
    (z5 : PySem.W.nsIn K mainGlobals "isinstance" = some none)
    (z6 : PySem.W.nsIn K mainGlobals "len" = some none)
    (z7 : PySem.W.nsIn K mainGlobals "list" = some none)
    (z8 : PySem.W.nsIn K mainGlobals "max" = some none)
    (z9 : PySem.W.nsIn K mainGlobals "min" = some none)
    (z10 : PySem.W.nsIn K mainGlobals "range" = some none)
    (z11 : PySem.W.nsIn K mainGlobals "sorted" = some none)
    (z12 : PySem.W.nsIn K mainGlobals "str" = some none)
    (z13 : PySem.W.nsIn K mainGlobals "sum" = some none)
    (z14 : PySem.W.nsIn K mainGlobals "tuple" = some none)
    : ∃ fd : FuncData, (∀ (s : Shared) (v : Value), BindsTo s fd ⟨[v], []⟩ [("_law_script", v)]) ∧ ∀ base : Heap, K.In base → base.Ns mainGlobals mg → FnOk l.prog w K mg base CX0 6 fa fd ["_law_script"] (liftSp K 1 sp_law) := by
  have e := hfa.symm.trans (PySem.W.mg_of X G a23)
  cases e
  have B : Bl mg := ⟨PySem.W.mg_none_of X G z0, PySem.W.mg_none_of X G z1, PySem.W.mg_none_of X G z2, PySem.W.mg_none_of X G z3, PySem.W.mg_none_of X G z4, PySem.W.mg_none_of X G z5, PySem.W.mg_none_of X G z6, PySem.W.mg_none_of X G z7, PySem.W.mg_none_of X G z8, PySem.W.mg_none_of X G z9, PySem.W.mg_none_of X G z10, PySem.W.mg_none_of X G z11, PySem.W.mg_none_of X G z12, PySem.W.mg_none_of X G z13, PySem.W.mg_none_of X G z14⟩
  have T : Tx mg := ⟨⟨_, PySem.W.mg_of X G e0⟩, ⟨_, PySem.W.mg_of X G e1⟩, ⟨_, PySem.W.mg_of X G e2⟩, ⟨_, PySem.W.mg_of X G e3⟩, ⟨_, PySem.W.mg_of X G e4⟩⟩
  refine ⟨PySem.W.fnOf "law" "law" (defArgs s_law) (defBody s_law) (defScope s_law) .none kV23 dc23 pm23 an23 cd23 ct23, fun s v => .of_eq rfl, fun base _ _ => ?_⟩
  have F0 := fun_mk (st := s_is_name) l0 c0 k0
  have b0 := F0.binds (ps := ["name"]) fun _ _ _ _ _ _ us hl => match us, hl with | [_], _ => rfl
  have D_is_name : DefOk l.prog w K mg base 1 "is_name" ["name"] 1 sp_is_name := ⟨⟨_, _, ok_is_name F0 B T, PySem.W.mg_of X G a0, k0, b0⟩, ms_is_name⟩
  have F1 := fun_mk (st := s_are_marks) l1 c1 k1
  have b1 := F1.binds (ps := ["some", "many"]) fun _ _ _ _ _ _ us hl => match us, hl with | [_, _], _ => rfl
  have D_are_marks : DefOk l.prog w K mg base 1 "are_marks" ["some", "many"] 2 sp_are_marks := ⟨⟨_, _, ok_are_marks F1 B, PySem.W.mg_of X G a1, k1, b1⟩, ms_are_marks⟩
  have F2 := fun_mk (st := s_is_deed) l2 c2 k2
  have b2 := F2.binds (ps := ["deed", "ahead", "many"]) fun _ _ _ _ _ _ us hl => match us, hl with | [_, _, _], _ => rfl
  have D_is_deed : DefOk l.prog w K mg base 2 "is_deed" ["deed", "ahead", "many"] 3 sp_is_deed := ⟨⟨_, _, ok_is_deed F2 B T D_is_name D_are_marks, PySem.W.mg_of X G a2, k2, b2⟩, ms_is_deed⟩
  have F3 := fun_mk (st := s_need_yard) l3 c3 k3
  have b3 := F3.binds (ps := ["yard"]) fun _ _ _ _ _ _ us hl => match us, hl with | [_], _ => rfl
  have D_need_yard : DefOk l.prog w K mg base 3 "need_yard" ["yard"] 1 sp_need := ⟨⟨_, _, ok_need_yard F3 B T D_is_name D_are_marks D_is_deed, PySem.W.mg_of X G a3, k3, b3⟩, ms_need⟩
  have F4 := fun_mk (st := s__law_dice) l4 c4 k4
  have b4 := F4.binds (ps := ["_law_script", "_law_k"]) fun _ _ _ _ _ _ us hl => match us, hl with | [_, _], _ => rfl
  have D__law_dice : DefOk l.prog w K mg base 1 "_law_dice" ["_law_script", "_law_k"] 2 sp_dice := ⟨⟨_, _, ok_dice F4 B, PySem.W.mg_of X G a4, k4, b4⟩, ms_dice⟩
  have F5 := fun_mk (st := s__law_off) l5 c5 k5
  have b5 := F5.binds (ps := ["_law_d", "_law_upto"]) fun _ _ _ _ _ _ us hl => match us, hl with | [_, _], _ => rfl
  have D__law_off : DefOk l.prog w K mg base 1 "_law_off" ["_law_d", "_law_upto"] 2 sp_off := ⟨⟨_, _, ok_off F5 B, PySem.W.mg_of X G a5, k5, b5⟩, ms_off⟩
  have F6 := fun_mk (st := s__law_mixed) l6 c6 k6
  have b6 := F6.binds (ps := ["_law_d", "_law_row"]) fun _ _ _ _ _ _ us hl => match us, hl with | [_, _], _ => rfl
  have D__law_mixed : DefOk l.prog w K mg base 2 "_law_mixed" ["_law_d", "_law_row"] 2 sp_mixed := ⟨⟨_, _, ok_mixed F6 B D__law_off, PySem.W.mg_of X G a6, k6, b6⟩, ms_mixed⟩
  have F7 := fun_mk (st := s__law_names) l7 c7 k7
  have b7 := F7.binds (ps := ["_law_d", "_law_many"]) fun _ _ _ _ _ _ us hl => match us, hl with | [_, _], _ => rfl
  have D__law_names : DefOk l.prog w K mg base 3 "_law_names" ["_law_d", "_law_many"] 2 sp_names := ⟨⟨_, _, ok_names F7 B D__law_off D__law_mixed, PySem.W.mg_of X G a7, k7, b7⟩, ms_names⟩
  have F8 := fun_mk (st := s__law_some) l8 c8 k8
  have b8 := F8.binds (ps := ["_law_d", "_law_many", "_law_few"]) fun _ _ _ _ _ _ us hl => match us, hl with | [_, _, _], _ => rfl
  have D__law_some : DefOk l.prog w K mg base 2 "_law_some" ["_law_d", "_law_many", "_law_few"] 3 sp_some := ⟨⟨_, _, ok_some F8 B D__law_off, PySem.W.mg_of X G a8, k8, b8⟩, ms_some⟩
  have F9 := fun_mk (st := s__law_price) l9 c9 k9
  have b9 := F9.binds (ps := ["_law_d"]) fun _ _ _ _ _ _ us hl => match us, hl with | [_], _ => rfl
  have D__law_price : DefOk l.prog w K mg base 2 "_law_price" ["_law_d"] 1 sp_price := ⟨⟨_, _, ok_price F9 B D__law_off, PySem.W.mg_of X G a9, k9, b9⟩, ms_price⟩
  have F10 := fun_mk (st := s__law_parts) l10 c10 k10
  have b10 := F10.binds (ps := ["_law_d", "_law_many", "_law_way", "_law_k"]) fun _ _ _ _ _ _ us hl => match us, hl with | [_, _, _, _], _ => rfl
  have D__law_parts : DefOk l.prog w K mg base 3 "_law_parts" ["_law_d", "_law_many", "_law_way", "_law_k"] 4 sp_parts := ⟨⟨_, _, ok_parts F10 B D__law_off D__law_some, PySem.W.mg_of X G a10, k10, b10⟩, ms_parts⟩
  have F11 := fun_mk (st := s__law_yard) l11 c11 k11
  have b11 := F11.binds (ps := ["_law_d", "_law_upto", "_law_acts"]) fun _ _ _ _ _ _ us hl => match us, hl with | [_, _, _], _ => rfl
  have D__law_yard : DefOk l.prog w K mg base 4 "_law_yard" ["_law_d", "_law_upto", "_law_acts"] 3 sp_yard := ⟨⟨_, _, ok_yard F11 B D__law_off D__law_mixed D__law_names D__law_some D__law_price D__law_parts, PySem.W.mg_of X G a11, k11, b11⟩, ms_yard⟩
  have F12 := fun_mk (st := s__law_has) l12 c12 k12
  have b12 := F12.binds (ps := ["_law_state", "_law_some_here"]) fun _ _ _ _ _ _ us hl => match us, hl with | [_, _], _ => rfl
  have D__law_has : DefOk l.prog w K mg base 1 "_law_has" ["_law_state", "_law_some_here"] 2 sp_lhas := ⟨⟨_, _, ok_lhas F12 B, PySem.W.mg_of X G a12, k12, b12⟩, ms_lhas⟩
  have F13 := fun_mk (st := s__law_alike) l13 c13 k13
  have b13 := F13.binds (ps := ["_law_found", "_law_due"]) fun _ _ _ _ _ _ us hl => match us, hl with | [_, _], _ => rfl
  have D13_0 : DefOk l.prog w K mg base 0 "_law_alike" ["_law_found", "_law_due"] 2 (spAl 0) := ⟨⟨_, _, ⟨fun vs H Q E q => q.1, fun A outer s H args us vs Q E _ _ _ _ q => by obtain ⟨_, Γ, _, d, _, al, _⟩ := q; cases al⟩, PySem.W.mg_of X G a13, k13, b13⟩, msAl 0⟩
  have D13_1 : DefOk l.prog w K mg base 1 "_law_alike" ["_law_found", "_law_due"] 2 (spAl 1) := ⟨⟨_, _, ok_alike F13 B D13_0, PySem.W.mg_of X G a13, k13, b13⟩, msAl 1⟩
  have D__law_alike : DefOk l.prog w K mg base 2 "_law_alike" ["_law_found", "_law_due"] 2 (spAl 2) := ⟨⟨_, _, ok_alike F13 B D13_1, PySem.W.mg_of X G a13, k13, b13⟩, msAl 2⟩
  have F14 := fun_mk (st := s__law_alike) l14 c14 k14
  have b14 := F14.binds (ps := ["_law_found", "_law_due"]) fun _ _ _ _ _ _ us hl => match us, hl with | [_, _], _ => rfl
  have D__law_alikeO : DefOk l.prog w K mg base 3 "_law_alike" ["_law_found", "_law_due"] 2 (spAlO 2) := ⟨⟨_, _, ok_alikeO F14 B D__law_alike, PySem.W.mg_of X G a14, k14, b14⟩, msAlO 2⟩
  have F15 := fun_mk (st := s_fall_of) l15 c15 k15
  have b15 := F15.binds (ps := ["deed", "weights"]) fun _ _ _ _ _ _ us hl => match us, hl with | [_, _], _ => rfl
  have D_fall_of : DefOk l.prog w K mg base 1 "fall_of" ["deed", "weights"] 2 sp_fall := ⟨⟨_, _, ok_fall F15 B, PySem.W.mg_of X G a15, k15, b15⟩, ms_fall⟩
  have F16 := fun_mk (st := s_falls) l16 c16 k16
  have b16 := F16.binds (ps := ["yard", "weights"]) fun _ _ _ _ _ _ us hl => match us, hl with | [_, _], _ => rfl
  have D_falls : DefOk l.prog w K mg base 4 "falls" ["yard", "weights"] 2 sp_falls := ⟨⟨_, _, ok_falls F16 B D_need_yard D_fall_of, PySem.W.mg_of X G a16, k16, b16⟩, ms_falls⟩
  have F17 := fun_mk (st := s_top_of) l17 c17 k17
  have b17 := F17.binds (ps := ["yard", "weights"]) fun _ _ _ _ _ _ us hl => match us, hl with | [_, _], _ => rfl
  have D_top_of : DefOk l.prog w K mg base 4 "top_of" ["yard", "weights"] 2 sp_top := ⟨⟨_, _, ok_top F17 B D_need_yard, PySem.W.mg_of X G a17, k17, b17⟩, ms_top⟩
  have F18 := fun_mk (st := s__law_after) l18 c18 k18
  have b18 := F18.binds (ps := ["_law_state", "_law_deed"]) fun _ _ _ _ _ _ us hl => match us, hl with | [_, _], _ => rfl
  have D__law_after : DefOk l.prog w K mg base 1 "_law_after" ["_law_state", "_law_deed"] 2 sp_lafter := ⟨⟨_, _, ok_lafter F18 B, PySem.W.mg_of X G a18, k18, b18⟩, ms_lafter⟩
  have F19 := fun_mk (st := s__law_every) l19 c19 k19
  have b19 := F19.binds (ps := ["_law_many"]) fun _ _ _ _ _ _ us hl => match us, hl with | [_], _ => rfl
  have D__law_every : DefOk l.prog w K mg base 1 "_law_every" ["_law_many"] 1 sp_every := ⟨⟨_, _, ok_every F19 B, PySem.W.mg_of X G a19, k19, b19⟩, ms_every⟩
  have F20 := fun_mk (st := s__law_weight) l20 c20 k20
  have b20 := F20.binds (ps := ["_law_weights_here", "_law_state"]) fun _ _ _ _ _ _ us hl => match us, hl with | [_, _], _ => rfl
  have D__law_weight : DefOk l.prog w K mg base 1 "_law_weight" ["_law_weights_here", "_law_state"] 2 sp_weight := ⟨⟨_, _, ok_weight F20 B, PySem.W.mg_of X G a20, k20, b20⟩, ms_weight⟩
  have F21 := fun_mk (st := s__law_weights) l21 c21 k21
  have b21 := F21.binds (ps := ["_law_d", "_law_t"]) fun _ _ _ _ _ _ us hl => match us, hl with | [_, _], _ => rfl
  have D__law_weights : DefOk l.prog w K mg base 2 "_law_weights" ["_law_d", "_law_t"] 2 sp_weights := ⟨⟨_, _, ok_weights F21 B D__law_off, PySem.W.mg_of X G a21, k21, b21⟩, ms_weights⟩
  have F22 := fun_mk (st := s_weighed) l22 c22 k22
  have b22 := F22.binds (ps := ["yard", "weights"]) fun _ _ _ _ _ _ us hl => match us, hl with | [_, _], _ => rfl
  have D_weighed : DefOk l.prog w K mg base 5 "weighed" ["yard", "weights"] 2 sp_weighed := ⟨⟨_, _, ok_weighed F22 B D_need_yard D_fall_of D_top_of, PySem.W.mg_of X G a22, k22, b22⟩, ms_weighed⟩
  have F23 := fun_mk (st := s_law) l23 c23 k23
  exact ok_law F23 B D__law_dice D__law_yard D__law_has D__law_weights D__law_every D__law_weight D__law_after D__law_alike D__law_alikeO D_falls D_top_of D_weighed
end K
open PySem PySem.W PyProof.Rows
set_option maxHeartbeats 0 in
theorem PySem.Challenge.cw_wishbound_k21_falls_and_tops_holds : PySem.Challenge.rw_wishbound_k21_falls_and_tops.Holds := by
  w_on; o_law; k_head; (case hw => w_witness2)
  k_fill
  refine L2.walk_ofK (l := PySem.Challenge.rw_wishbound_k21_falls_and_tops) (n := 63) (k := 6) (x := "_law_script") (CX := L2.CX0) (sp := fun KK => DL.liftSp KK 1 _root_.K.sp_law) rfl (by decide) rfl ⟨rfl, by decide, by decide⟩ (fun w h Y => PySem.W.kIn_of Y) ?F (fun _ _ a ns hl hO hS => DL.law_start (fun ns Q E h q => ⟨ns, rfl, h, q _⟩) hl hO hS) (fun _ _ _ _ h => h)
  case F =>
    intro w mg fa h KX G hmg
    refine' _root_.K.all_mk KX G hmg ?a0 ?l0 ?c0 ?k0 ?a1 ?l1 ?c1 ?k1 ?a2 ?l2 ?c2 ?k2 ?a3 ?l3 ?c3 ?k3 ?a4 ?l4 ?c4 ?k4 ?a5 ?l5 ?c5 ?k5 ?a6 ?l6 ?c6 ?k6 ?a7 ?l7 ?c7 ?k7 ?a8 ?l8 ?c8 ?k8 ?a9 ?l9 ?c9 ?k9 ?a10 ?l10 ?c10 ?k10 ?a11 ?l11 ?c11 ?k11 ?a12 ?l12 ?c12 ?k12 ?a13 ?l13 ?c13 ?k13 ?a14 ?l14 ?c14 ?k14 ?a15 ?l15 ?c15 ?k15 ?a16 ?l16 ?c16 ?k16 ?a17 ?l17 ?c17 ?k17 ?a18 ?l18 ?c18 ?k18 ?a19 ?l19 ?c19 ?k19 ?a20 ?l20 ?c20 ?k20 ?a21 ?l21 ?c21 ?k21 ?a22 ?l22 ?c22 ?k22 ?a23 ?l23 ?c23 ?k23 ?e0 ?e1 ?e2 ?e3 ?e4 ?z0 ?z1 ?z2 ?z3 ?z4 ?z5 ?z6 ?z7 ?z8 ?z9 ?z10 ?z11 ?z12 ?z13 ?z14
    (case a0 => k_is); (case l0 => k_is); (case c0 => k_is); (case k0 => k_is); (case a1 => k_is); (case l1 => k_is); (case c1 => k_is); (case k1 => k_is); (case a2 => k_is); (case l2 => k_is); (case c2 => k_is); (case k2 => k_is); (case a3 => k_is); (case l3 => k_is); (case c3 => k_is); (case k3 => k_is); (case a4 => k_is); (case l4 => k_is); (case c4 => k_is); (case k4 => k_is); (case a5 => k_is); (case l5 => k_is); (case c5 => k_is); (case k5 => k_is); (case a6 => k_is); (case l6 => k_is); (case c6 => k_is); (case k6 => k_is); (case a7 => k_is); (case l7 => k_is); (case c7 => k_is); (case k7 => k_is); (case a8 => k_is); (case l8 => k_is); (case c8 => k_is); (case k8 => k_is); (case a9 => k_is); (case l9 => k_is); (case c9 => k_is); (case k9 => k_is); (case a10 => k_is); (case l10 => k_is); (case c10 => k_is); (case k10 => k_is); (case a11 => k_is); (case l11 => k_is); (case c11 => k_is); (case k11 => k_is); (case a12 => k_is); (case l12 => k_is); (case c12 => k_is); (case k12 => k_is); (case a13 => k_is); (case l13 => k_is); (case c13 => k_is); (case k13 => k_is); (case a14 => k_is); (case l14 => k_is); (case c14 => k_is); (case k14 => k_is); (case a15 => k_is); (case l15 => k_is); (case c15 => k_is); (case k15 => k_is); (case a16 => k_is); (case l16 => k_is); (case c16 => k_is); (case k16 => k_is); (case a17 => k_is); (case l17 => k_is); (case c17 => k_is); (case k17 => k_is); (case a18 => k_is); (case l18 => k_is); (case c18 => k_is); (case k18 => k_is); (case a19 => k_is); (case l19 => k_is); (case c19 => k_is); (case k19 => k_is); (case a20 => k_is); (case l20 => k_is); (case c20 => k_is); (case k20 => k_is); (case a21 => k_is); (case l21 => k_is); (case c21 => k_is); (case k21 => k_is); (case a22 => k_is); (case l22 => k_is); (case c22 => k_is); (case k22 => k_is); (case a23 => k_is); (case l23 => k_is); (case c23 => k_is); (case k23 => k_is); (case e0 => k_is); (case e1 => k_is); (case e2 => k_is); (case e3 => k_is); (case e4 => k_is); (case z0 => k_is); (case z1 => k_is); (case z2 => k_is); (case z3 => k_is); (case z4 => k_is); (case z5 => k_is); (case z6 => k_is); (case z7 => k_is); (case z8 => k_is); (case z9 => k_is); (case z10 => k_is); (case z11 => k_is); (case z12 => k_is); (case z13 => k_is); (case z14 => k_is)
